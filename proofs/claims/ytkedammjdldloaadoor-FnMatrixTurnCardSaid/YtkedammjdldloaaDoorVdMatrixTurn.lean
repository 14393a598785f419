/- What the plain programs return, the functions of the program return; no condition. -/
import Derived.Test.YtkedammjdldloaaDoorQdMatrixTurn
import Derived.Test.YtkedammjdldloaaDoorFa
import Derived.Test.YtkedammjdldloaaDoorVbx
import Derived.Test.YtkedammjdldloaaDoorVbt
import Derived.Test.YtkedammjdldloaaDoorVbd
import Derived.Test.YtkedammjdldloaaDoorVbc
namespace Go.Proofs.YtkedammjdldloaaDoor
open Go
set_option linter.unusedVariables false
set_option linter.unusedSimpArgs false

set_option maxRecDepth 20000 in
theorem w_spec_DrawMatrixTurn (code0a : Option Addr) (code0n : Nat) (code0c : Nat) {code0 : List UInt8} {r : List (List Int)} (h : p_spec_DrawMatrixTurn code0 = some r) :
    Triple Tryd.prog 5 [.slice code0a code0n code0c] [⟨.slice code0a code0n code0c, 1, code0.map encB⟩] [] (fun v ch => ∃ (w0a : Option Addr) (w0c : Nat) (w0R : List Row), v = .slice w0a r.length w0c ∧ nums w0R = r ∧ ch = (⟨.slice w0a r.length w0c, 1, w0R.map encRow⟩ :: (rowsC w0R))) := by
  refine triple_start 6 Tryd.func5 Tryd.ntmps5 rfl rfl (fun w0 => ?_)
  refine k_len (c := code0c) (fun hl1 => ?_)
  subst hl1
  unfold p_spec_DrawMatrixTurn at h
  refine kwp_seq ?_
  refine kwp_region ?_
  refine kops_nilM (fun R2 hR2 => ?_)
  refine kd (v_as) ?_
  refine kops_nil ?_
  refine kn_then ?_
  refine kwp_seq ?_
  refine kwp_region ?_
  refine kd (v_mv) ?_
  obtain ⟨v4, hv3, h⟩ := e_bind h
  refine kk (n_call Tryd.call18 (w_spec_l20Open code0a code0.length code0c hv3) ?_)
  rintro _ _ ⟨q5p, q50a, q50c, rfl, hvwq5, rfl⟩
  obtain ⟨⟨v7, v8⟩, hv6, h⟩ := e_bind h
  refine kk (n_call Tryd.call17 (w_spec_l20Matrix q5p q50a v4.b.length q50c hv6) ?_ (hv := (Views.cons (by repeat (first | exact mh | apply mt | apply mas | apply ms)) hvwq5 (Views.nil _))))
  rintro _ _ ⟨q9a, q9c, q9R, rfl, hq9R, rfl⟩
  refine kd (v_as) ?_
  refine kops_nil ?_
  refine kn_then ?_
  refine kwp_ret ?_
  obtain rfl := e_some h
  refine r1 (⟨.slice q9a v7.length q9c, 1, q9R.map encRow⟩ :: (rowsC q9R)) ?_
  exact ⟨q9a, q9c, q9R, rfl, hq9R, rfl⟩

set_option maxRecDepth 20000 in
theorem w_laws_FnMatrixTurn (code0a : Option Addr) (code0n : Nat) (code0c : Nat) {code0 : List UInt8} {r : Bool} (h : p_laws_FnMatrixTurn code0 = some r) :
    Triple Tryd.prog 3 [.slice code0a code0n code0c] [⟨.slice code0a code0n code0c, 1, code0.map encB⟩, tabC] [] (fun v ch => v = .bool r ∧ ch = []) := by
  refine triple_start 30 Tryd.func3 Tryd.ntmps3 rfl rfl (fun w0 => ?_)
  refine k_len (c := code0c) (fun hl1 => ?_)
  subst hl1
  unfold p_laws_FnMatrixTurn at h
  refine kwp_seq ?_
  refine kwp_region ?_
  refine kd (v_as) ?_
  refine kops_nil ?_
  refine kn_then ?_
  refine kwp_seq ?_
  refine kwp_seq ?_
  refine kwp_region ?_
  refine kd (v_mv) ?_
  refine kd (v_len Tryd.runUnderlying22) ?_
  refine kd (v_cmp) ?_
  refine kops_nil ?_
  refine kn_then ?_
  refine kwp_cond rfl (fun hc2 => ?_) (fun hc2 => ?_)
  ·
    replace h := e_t h hc2
    refine kwp_seq ?_
    refine kwp_region ?_
    refine kd (v_as) ?_
    refine kops_nil ?_
    refine kn_then ?_
    refine kwp_ret ?_
    refine kr_then ?_
    obtain rfl := e_some h
    refine r1 [] ?_
    exact ⟨rfl, rfl⟩
  ·
    replace h := e_f h hc2
    refine kwp_skip ?_
    refine kn_then ?_
    refine kwp_seq ?_
    refine kwp_region ?_
    refine kd (v_mv) ?_
    obtain ⟨v4, hv3, h⟩ := e_bind h
    refine kk (n_call Tryd.call5 (w_spec_DrawMatrixTurn code0a code0.length code0c hv3) ?_)
    rintro _ _ ⟨q5a, q5c, q5R, rfl, hq5R, rfl⟩
    refine kd (v_as) ?_
    refine kops_nil ?_
    refine kn_then ?_
    refine kwp_seq ?_
    refine kwp_region ?_
    refine kd (v_mv) ?_
    obtain ⟨v7, hv6, h⟩ := e_bind h
    refine kk (n_call Tryd.call6 (w_impl_MatrixTurn q5a v4.length q5c q5R hq5R hv6) ?_)
    rintro _ _ ⟨q8a, q8c, q8R, rfl, hq8R, rfl⟩
    refine kd (v_as) ?_
    refine kops_nil ?_
    refine kn_then ?_
    refine kwp_seq ?_
    refine kwp_seq ?_
    refine kwp_region ?_
    refine kd (v_mv) ?_
    refine kd (v_mv) ?_
    obtain ⟨v10, hv9, h⟩ := e_bind h
    refine kk (n_call Tryd.call8 (w_spec_MatrixTurn q5a v4.length q5c q5R hq5R hv9) ?_)
    rintro _ _ ⟨q11a, q11c, q11R, rfl, hq11R, rfl⟩
    obtain ⟨v13, hv12, h⟩ := e_bind h
    refine kk (n_call Tryd.call7 (w_laws_sameLists q8a v7.length q8c q8R q11a v10.length q11c q11R hq8R hq11R hv12) ?_)
    rintro _ _ ⟨rfl, rfl⟩
    refine kd (v_not) ?_
    refine kops_nil ?_
    refine kn_then ?_
    refine kwp_cond rfl (fun hc15 => ?_) (fun hc15 => ?_)
    ·
      replace h := e_t h hc15
      refine kwp_seq ?_
      refine kwp_region ?_
      refine kd (v_as) ?_
      refine kops_nil ?_
      refine kn_then ?_
      refine kwp_ret ?_
      refine kr_then ?_
      obtain rfl := e_some h
      refine r1 [] ?_
      exact ⟨rfl, rfl⟩
    ·
      replace h := e_f h hc15
      refine kwp_skip ?_
      refine kn_then ?_
      refine kwp_seq ?_
      refine kwp_seq ?_
      refine kwp_region ?_
      refine kd (v_mv) ?_
      obtain ⟨v17, hv16, h⟩ := e_bind h
      refine kk (n_call Tryd.call9 (w_spec_MatrixValid q5a v4.length q5c q5R hq5R hv16) ?_)
      rintro _ _ ⟨rfl, rfl⟩
      refine kd (v_not) ?_
      refine kops_nil ?_
      refine kn_then ?_
      refine kwp_cond rfl (fun hc19 => ?_) (fun hc19 => ?_)
      ·
        replace h := e_t h hc19
        refine kwp_seq ?_
        refine kwp_region ?_
        refine kd (v_mv) ?_
        refine kd (v_len Tryd.runUnderlying23) ?_
        refine kd (v_cmp) ?_
        refine kd (v_mv) ?_
        refine kops_split 23 rfl (fun hb20 => ?_) (fun hb20 => ?_)
        ·
          replace h := e_t h hb20
          obtain ⟨v22, hv21, h⟩ := e_bind h
          refine kgk hb20 (n_call Tryd.call10 (w_laws_alive hv21) ?_)
          rintro _ _ ⟨rfl, rfl⟩
          refine kd (v_pt hb20) ?_
          refine kd (v_as) ?_
          refine kops_nil ?_
          refine kn_then ?_
          refine kwp_ret ?_
          refine kr_then ?_
          obtain rfl := e_some h
          refine r1 [] ?_
          exact ⟨rfl, rfl⟩
        ·
          replace h := e_f h hb20
          refine kskip hb20 ?_
          refine kd (v_pf hb20) ?_
          refine kd (v_as) ?_
          refine kops_nil ?_
          refine kn_then ?_
          refine kwp_ret ?_
          refine kr_then ?_
          obtain rfl := e_some h
          refine r1 [] ?_
          exact ⟨rfl, rfl⟩
      ·
        replace h := e_f h hc19
        refine kwp_skip ?_
        refine kn_then ?_
        refine kwp_seq ?_
        refine kwp_region ?_
        refine kd (v_mv) ?_
        obtain ⟨v25, hv24, h⟩ := e_bind h
        refine kk (n_call Tryd.call6 (w_impl_MatrixTurn q8a v7.length q8c q8R hq8R hv24) ?_)
        rintro _ _ ⟨q26a, q26c, q26R, rfl, hq26R, rfl⟩
        refine kd (v_mv) ?_
        obtain ⟨v28, hv27, h⟩ := e_bind h
        refine kk (n_call Tryd.call7 (w_laws_sameLists q26a v25.length q26c q26R q5a v4.length q5c q5R hq26R hq5R hv27) ?_)
        rintro _ _ ⟨rfl, rfl⟩
        refine kd (v_as) ?_
        refine kops_nil ?_
        refine kn_then ?_
        refine kwp_ret ?_
        obtain rfl := e_some h
        refine r1 [] ?_
        exact ⟨rfl, rfl⟩

end Go.Proofs.YtkedammjdldloaaDoor
