/- Functions of the program as plain partial programs; no condition. -/
import Derived.Test.YtfgialdcilldiaaDa
import Derived.Test.YtfgialdcilldiaaQc
import Derived.Test.YtfgialdcilldiaaQp
import Derived.Test.YtfgialdcilldiaaQi
namespace Go.Proofs.Ytfgialdcilldiaa
open Go
set_option linter.unusedVariables false
set_option linter.unusedSimpArgs false

noncomputable def p_impl_PoolsAt_L0 (c0 : Cave) (level0 : Int) (z : Int × List Int) : O (Lp (Int × List Int) (List Int)) := match z with | (x16, l17) => cond (decide (x16 < ((c0.si.length : Nat) : Int))) (idx c0.si.length x16 fun j23 => cond (decide (((gx c0.si j23).high) ≤ level0)) ((p_impl_joinParts l17 ((gx c0.si j23).a) ((gx c0.si j23).b)).bind fun (v27, v28) => some (.next (w64 (x16 + 1), v28))) (some (.next (w64 (x16 + 1), l17)))) (some (.out l17))
noncomputable def p_impl_PoolsAt (c0 : Cave) (level0 : Int) : O (List Int) := (p_impl_CaveValid (⟨c0.fl, c0.ar, c0.si⟩ : Cave)).bind fun v6 => cond (!v6) (some ([] : List Int)) ((p_impl_ownParts ((c0.fl.length : Nat) : Int)).bind fun v10 => (loop (p_impl_PoolsAt_L0 c0 level0) (0, v10)).bind fun l12 => some l12)


noncomputable def p_spec_PoolsAt_L0 (c0 : Cave) (level0 : Int) (z : List Int × Int) : O (Lp (List Int × Int) (List Int)) := match z with | (use14, k15) => cond (decide (k15 < ((c0.si.length : Nat) : Int))) (idx c0.si.length k15 fun j22 => cond (decide (((gx c0.si j22).high) ≤ level0)) (need (use14.length + ([k15] : List Int).length ≤ 1073741824) <| some (.next (use14 ++ ([k15] : List Int), w64 (k15 + 1)))) (some (.next (use14, w64 (k15 + 1))))) (some (.out use14))
noncomputable def p_spec_PoolsAt (c0 : Cave) (level0 : Int) : O (List Int) := (p_spec_CaveValid (⟨c0.fl, c0.ar, c0.si⟩ : Cave)).bind fun v7 => cond (!v7) (some ([] : List Int)) ((loop (p_spec_PoolsAt_L0 c0 level0) (([] : List Int), 0)).bind fun use10 => (p_spec_l4Parts (⟨c0.fl, c0.ar, c0.si⟩ : Cave) use10).bind fun v33 => some v33)


noncomputable def p_laws_FnExactPoolsAt (aC0 : Cave) (aLevel0 : Int) : O (Bool) := (p_laws_szCave (⟨aC0.fl, aC0.ar, aC0.si⟩ : Cave) 1048576).bind fun v6 => cond (decide (v6 < 0)) (some true) ((p_laws_toCave (⟨aC0.fl, aC0.ar, aC0.si⟩ : Cave)).bind fun v10 => (p_spec_PoolsAt v10 aLevel0).bind fun v13 => (p_laws_toCave (⟨aC0.fl, aC0.ar, aC0.si⟩ : Cave)).bind fun v16 => (p_impl_PoolsAt (⟨v16.fl, v16.ar, v16.si⟩ : Cave) aLevel0).bind fun v20 => (p_laws_eqIntS v20 v13).bind fun v23 => cond (!v23) (some false) ((p_laws_toCave (⟨aC0.fl, aC0.ar, aC0.si⟩ : Cave)).bind fun v27 => (p_laws_eqCave (⟨v16.fl, v16.ar, v16.si⟩ : Cave) v27).bind fun v30 => cond (!v30) (some false) ((p_laws_markCave (⟨v16.fl, v16.ar, v16.si⟩ : Cave) 1).bind fun (v34, v35, v36, v37) => (cond (decide (v34 < 0)) (some true) ((p_laws_eqIntS v20 v13).bind fun v45 => some (!v45))).bind fun x39 => cond x39 (some false) ((p_laws_markIntS v20 1).bind fun (v52, v53) => (p_laws_heldIntS v53 1).bind fun v56 => cond (decide (v56 < 0)) (some false) (cond (v56 != v52) (some false) ((p_laws_toCave (⟨aC0.fl, aC0.ar, aC0.si⟩ : Cave)).bind fun v61 => (p_impl_PoolsAt v61 aLevel0).bind fun v64 => (p_laws_eqIntS v64 v13).bind fun v67 => cond (!v67) (some false) ((p_laws_heldIntS v53 1).bind fun v71 => cond (decide (v71 < 0)) (some false) (cond (v71 != v52) (some false) (some true)))))))))


end Go.Proofs.Ytfgialdcilldiaa
