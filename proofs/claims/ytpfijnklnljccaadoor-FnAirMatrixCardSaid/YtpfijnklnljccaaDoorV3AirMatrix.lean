/- What the plain programs return, the functions of the program return; no condition. -/
import Derived.Test.YtpfijnklnljccaaDoorQ3AirMatrix
import Derived.Test.YtpfijnklnljccaaDoorFa
import Derived.Test.YtpfijnklnljccaaDoorVbm
import Derived.Test.YtpfijnklnljccaaDoorVbt
import Derived.Test.YtpfijnklnljccaaDoorVbw
import Derived.Test.YtpfijnklnljccaaDoorVbd
import Derived.Test.YtpfijnklnljccaaDoorVbc
namespace Go.Proofs.YtpfijnklnljccaaDoor
open Go
set_option linter.unusedVariables false
set_option linter.unusedSimpArgs false

set_option maxRecDepth 20000 in
theorem w_spec_DrawAirMatrix (code0a : Option Addr) (code0n : Nat) (code0c : Nat) {code0 : List UInt8} {r : Mine} (h : p_spec_DrawAirMatrix code0 = some r) :
    Triple Tryd.prog 27 [.slice code0a code0n code0c] [⟨.slice code0a code0n code0c, 1, code0.map encB⟩] [] (fun v ch => ∃ (w01a : Option Addr) (w01c : Nat), v = .agg #[.int .i64 r.p, .slice w01a r.aw.length w01c] ∧ ch = [⟨.slice w01a r.aw.length w01c, 3, r.aw.map encAirway⟩]) := by
  refine triple_start 6 Tryd.func27 Tryd.ntmps27 rfl rfl (fun w0 => ?_)
  refine k_len (c := code0c) (fun hl1 => ?_)
  subst hl1
  unfold p_spec_DrawAirMatrix at h
  refine kwp_seq ?_
  refine kwp_region ?_
  refine kops_nilchunk 3 (by decide) ?_
  refine kk (n_alloc (e := [.int .i64 0, .slice none 0 0]) 2 Tryd.zeroValue32 (fun p2_2 => ?_))
  refine kops_nil ?_
  refine kn_then ?_
  refine kwp_seq ?_
  refine kwp_region ?_
  refine kd (v_mv) ?_
  obtain ⟨v4, hv3, h⟩ := e_bind h
  refine kk (n_call Tryd.call57 (w_spec_l20Open code0a code0.length code0c hv3) ?_)
  rintro _ _ ⟨q5p, q50a, q50c, rfl, hvwq5, rfl⟩
  obtain ⟨⟨v7, v8⟩, hv6, h⟩ := e_bind h
  refine kk (n_call Tryd.call62 (w_spec_l20Mine q5p q50a v4.b.length q50c hv6) ?_ (hv := (Views.cons (by repeat (first | exact mh | apply mt | apply mas | apply ms)) hvwq5 (Views.nil _))))
  rintro _ _ ⟨q91a, q91c, rfl, rfl⟩
  refine kk (s_B (e' := [.int .i64 v7.p, .slice q91a v7.aw.length q91c]) Tryd.sizeOf32 ?_)
  refine kops_nil ?_
  refine kn_then ?_
  refine kwp_ret ?_
  obtain rfl := e_some h
  refine rc Tryd.isAgg32 Tryd.sizeOf32 [⟨.slice q91a v7.aw.length q91c, 3, v7.aw.map encAirway⟩] ?_
  exact ⟨q91a, q91c, rfl, rfl⟩

set_option maxRecDepth 20000 in
set_option maxHeartbeats 2000000 in
theorem w_laws_FnAirMatrix (code0a : Option Addr) (code0n : Nat) (code0c : Nat) {code0 : List UInt8} {r : Bool} (h : p_laws_FnAirMatrix code0 = some r) :
    Triple Tryd.prog 6 [.slice code0a code0n code0c] [⟨.slice code0a code0n code0c, 1, code0.map encB⟩, tabC] [] (fun v ch => v = .bool r ∧ ch = []) := by
  refine triple_start 66 Tryd.func6 Tryd.ntmps6 rfl rfl (fun w0 => ?_)
  refine k_len (c := code0c) (fun hl1 => ?_)
  subst hl1
  unfold p_laws_FnAirMatrix at h
  refine kwp_seq ?_
  refine kwp_region ?_
  refine kd (v_as) ?_
  refine kops_nil ?_
  refine kn_then ?_
  refine kwp_seq ?_
  refine kwp_seq ?_
  refine kwp_region ?_
  refine kd (v_mv) ?_
  refine kd (v_len Tryd.runUnderlying22) ?_
  refine kd (v_cmp) ?_
  refine kops_nil ?_
  refine kn_then ?_
  refine kwp_cond rfl (fun hc2 => ?_) (fun hc2 => ?_)
  ·
    replace h := e_t h hc2
    refine kwp_seq ?_
    refine kwp_region ?_
    refine kd (v_as) ?_
    refine kops_nil ?_
    refine kn_then ?_
    refine kwp_ret ?_
    refine kr_then ?_
    obtain rfl := e_some h
    refine r1 [] ?_
    exact ⟨rfl, rfl⟩
  ·
    replace h := e_f h hc2
    refine kwp_skip ?_
    refine kn_then ?_
    refine kwp_seq ?_
    refine kwp_region ?_
    refine kd (v_mv) ?_
    obtain ⟨v4, hv3, h⟩ := e_bind h
    refine kk (n_call Tryd.call27 (w_spec_DrawAirMatrix code0a code0.length code0c hv3) ?_)
    rintro _ _ ⟨q51a, q51c, rfl, rfl⟩
    refine kops_nilchunk 3 (by decide) ?_
    refine kk (n_alloc (e := [.int .i64 0, .slice none 0 0]) 2 Tryd.zeroValue32 (fun p3_6 => ?_))
    refine kk (s_B (e' := [.int .i64 v4.p, .slice q51a v4.aw.length q51c]) Tryd.sizeOf32 ?_)
    refine kops_nil ?_
    refine kn_then ?_
    refine kwp_seq ?_
    refine kwp_region ?_
    refine kd (v_ldB Tryd.isAgg32 Tryd.sizeOf32) ?_
    obtain ⟨v8, hv7, h⟩ := e_bind h
    refine kk (n_call Tryd.call28 (w_impl_AirMatrix q51a v4.aw.length q51c hv7) ?_)
    rintro _ _ ⟨q9a, q9c, q9R, rfl, hq9R, rfl⟩
    refine kd (v_as) ?_
    refine kops_nil ?_
    refine kn_then ?_
    refine kwp_seq ?_
    refine kwp_seq ?_
    refine kwp_region ?_
    refine kd (v_mv) ?_
    refine kd (v_ldB Tryd.isAgg32 Tryd.sizeOf32) ?_
    obtain ⟨v11, hv10, h⟩ := e_bind h
    refine kk (n_call Tryd.call30 (w_spec_AirMatrix q51a v4.aw.length q51c hv10) ?_)
    rintro _ _ ⟨q12a, q12c, q12R, rfl, hq12R, rfl⟩
    obtain ⟨v14, hv13, h⟩ := e_bind h
    refine kk (n_call Tryd.call29 (w_laws_sameLists q9a v8.length q9c q9R q12a v11.length q12c q12R hq9R hq12R hv13) ?_)
    rintro _ _ ⟨rfl, rfl⟩
    refine kd (v_not) ?_
    refine kops_nil ?_
    refine kn_then ?_
    refine kwp_cond rfl (fun hc16 => ?_) (fun hc16 => ?_)
    ·
      replace h := e_t h hc16
      refine kwp_seq ?_
      refine kwp_region ?_
      refine kd (v_as) ?_
      refine kops_nil ?_
      refine kn_then ?_
      refine kwp_ret ?_
      refine kr_then ?_
      obtain rfl := e_some h
      refine r1 [] ?_
      exact ⟨rfl, rfl⟩
    ·
      replace h := e_f h hc16
      refine kwp_skip ?_
      refine kn_then ?_
      refine kwp_seq ?_
      refine kwp_seq ?_
      refine kwp_region ?_
      refine kd (v_ldB Tryd.isAgg32 Tryd.sizeOf32) ?_
      obtain ⟨v18, hv17, h⟩ := e_bind h
      refine kk (n_call Tryd.call21 (w_spec_MineValid q51a v4.aw.length q51c hv17) ?_)
      rintro _ _ ⟨rfl, rfl⟩
      refine kd (v_not) ?_
      refine kops_nil ?_
      refine kn_then ?_
      refine kwp_cond rfl (fun hc20 => ?_) (fun hc20 => ?_)
      ·
        replace h := e_t h hc20
        refine kwp_seq ?_
        refine kwp_region ?_
        refine kd (v_mv) ?_
        refine kd (v_len Tryd.runUnderlying42) ?_
        refine kd (v_cmp) ?_
        refine kd (v_mv) ?_
        refine kops_split 26 rfl (fun hb21 => ?_) (fun hb21 => ?_)
        ·
          replace h := e_t h hb21
          obtain ⟨v23, hv22, h⟩ := e_bind h
          refine kgk hb21 (n_call Tryd.call18 (w_laws_alive hv22) ?_)
          rintro _ _ ⟨rfl, rfl⟩
          refine kd (v_pt hb21) ?_
          refine kd (v_as) ?_
          refine kops_nil ?_
          refine kn_then ?_
          refine kwp_ret ?_
          refine kr_then ?_
          obtain rfl := e_some h
          refine r1 [] ?_
          exact ⟨rfl, rfl⟩
        ·
          replace h := e_f h hb21
          refine kskip hb21 ?_
          refine kd (v_pf hb21) ?_
          refine kd (v_as) ?_
          refine kops_nil ?_
          refine kn_then ?_
          refine kwp_ret ?_
          refine kr_then ?_
          obtain rfl := e_some h
          refine r1 [] ?_
          exact ⟨rfl, rfl⟩
      ·
        replace h := e_f h hc20
        refine kwp_skip ?_
        refine kn_then ?_
        refine kwp_seq ?_
        refine kwp_region ?_
        refine kd (v_fb fa_32_0) ?_
        refine kd (v_ldb Tryd.isAgg3) ?_
        refine kops_nilchunk 3 (by decide) ?_
        refine kd (v_bd [(0, _)] [_, .slice none 0 0] Tryd.zeroValue32 Tryd.runUnderlying32 pl_32) ?_
        refine kops_nilchunk 3 (by decide) ?_
        refine kk (n_alloc (e := [.int .i64 0, .slice none 0 0]) 2 Tryd.zeroValue32 (fun p5_25 => ?_))
        refine kk (s_B (e' := [.int .i64 v4.p, .slice none 0 0]) Tryd.sizeOf32 ?_)
        refine kops_nil ?_
        refine kn_then ?_
        refine kwp_seq ?_
        refine kwp_seq ?_
        refine kwp_region ?_
        refine kd (v_as) ?_
        refine kops_nil ?_
        refine kn_then ?_
        refine kwp_cutE (inv := [(4, .slice q9a v8.length q9c), (5, .pointer (some p5_25))]) (fun (z : List Airway) (y : Option Addr × Nat × Nat) => []) (fun (z : List Airway) (y : Option Addr × Nat × Nat) => (⟨.pointer (some p5_25), 2, [[.int .i64 v4.p, .slice y.1 y.2.1 y.2.2]]⟩ :: ⟨.slice y.1 y.2.1 y.2.2, 3, z.map encAirway⟩ :: ⟨.slice q9a v8.length q9c, 1, q9R.map encRow⟩ :: (rowsC q9R))) (fun _ _ => True) h ?_ ?_
        · intro t29 h27
          refine kwp_block ?_
          refine kwp_loopE (inv := [(3, .pointer (some p3_6)), (4, .slice q9a v8.length q9c), (5, .pointer (some p5_25))]) (fun (z : Int × List Airway) (y : Option Addr × Nat × Nat) => [(6, .int .i64 z.1)]) (fun (z : Int × List Airway) (y : Option Addr × Nat × Nat) => (⟨.pointer (some p5_25), 2, [[.int .i64 v4.p, .slice y.1 y.2.1 y.2.2]]⟩ :: ⟨.slice y.1 y.2.1 y.2.2, 3, z.2.map encAirway⟩ :: ⟨.pointer (some p3_6), 2, [[.int .i64 v4.p, .slice q51a v4.aw.length q51c]]⟩ :: ⟨.slice q51a v4.aw.length q51c, 3, v4.aw.map encAirway⟩ :: ⟨.slice q9a v8.length q9c, 1, q9R.map encRow⟩ :: (rowsC q9R))) (fun _ _ => True) h27 ⟨(none, 0, 0), hd_mk trivial⟩ ?_
          intro z34 y35 b32 _ h33
          obtain ⟨k30, aw31⟩ := z34
          obtain ⟨aw31a, aw31n, aw31c⟩ := y35
          refine k_len (c := aw31c) (fun hl36 => ?_)
          subst hl36
          unfold p_laws_FnAirMatrix_L0 at h33
          refine kwp_seq ?_
          refine kwp_seq ?_
          refine kwp_region ?_
          refine kd (v_mv) ?_
          refine kd (v_fb fa_32_1) ?_
          refine kd (v_ldb Tryd.isAgg30) ?_
          refine kd (v_len Tryd.runUnderlying30) ?_
          refine kd (v_cmp) ?_
          refine kops_nil ?_
          refine kn_then ?_
          refine kwp_cond rfl (fun hc37 => ?_) (fun hc37 => ?_)
          ·
            replace h33 := e_t h33 hc37
            refine kwp_skip ?_
            refine kn_then ?_
            refine kwp_seq ?_
            refine kwp_block ?_
            refine kwp_seq ?_
            refine kwp_region ?_
            refine kd (v_fb fa_32_1) ?_
            refine kd (v_ldb Tryd.isAgg30) ?_
            refine kd (v_mv) ?_
            obtain ⟨j38, ej38, nj38, h33⟩ := e_idx h33
            refine kd (v_ia ej38 nj38 Tryd.runUnderlying30 Tryd.sizeOf36) ?_
            refine kd (v_lda (e := [_, _, _]) nj38 Tryd.isAgg36 Tryd.sizeOf36) ?_
            refine kk (n_alloc (e := [.int .i64 0, .int .i64 0, .int .i64 0]) 3 Tryd.zeroValue36 (fun p7_39 => ?_))
            refine kk (s_B (e' := [.int .i64 ((gx v4.aw j38).f), .int .i64 ((gx v4.aw j38).t), .int .i64 ((gx v4.aw j38).w)]) Tryd.sizeOf36 ?_)
            refine kops_nil ?_
            refine kn_then ?_
            refine kwp_region ?_
            refine kd (v_fb fa_32_1) ?_
            refine kd (v_ldb Tryd.isAgg30) ?_
            refine kd (v_fb fa_36_1) ?_
            refine kd (v_ldb Tryd.isAgg3) ?_
            refine kd (v_fb fa_36_0) ?_
            refine kd (v_ldb Tryd.isAgg3) ?_
            refine kd (v_fb fa_36_2) ?_
            refine kd (v_ldb Tryd.isAgg3) ?_
            refine kd (v_bd [(0, _), (1, _), (2, _)] [_, _, _] Tryd.zeroValue36 Tryd.runUnderlying36 pl_36) ?_
            refine kk (n_lit (enc := encAirway) [_] ([(⟨(gx v4.aw j38).t, (gx v4.aw j38).f, (gx v4.aw j38).w⟩ : Airway)] : List Airway) Tryd.runUnderlying30 Tryd.sizeOf36 Tryd.zeroValue36 (fun a40 => ?_))
            obtain ⟨hz41, h33⟩ := e_need h33
            refine kk (n_app (enc := encAirway) ok_encAirway hz41 Tryd.underlying30 Tryd.type36 (by decide) (fun a42 c43 => ?_))
            refine kd (v_fb fa_32_1) ?_
            refine kk (s_b (e' := [.int .i64 v4.p, .slice a42 ((aw31 ++ ([(⟨(gx v4.aw j38).t, (gx v4.aw j38).f, (gx v4.aw j38).w⟩ : Airway)] : List Airway)).length) c43]) Tryd.sizeOf30 ?_)
            refine kops_nil ?_
            refine kn_block ?_
            refine kn_then ?_
            refine kwp_region ?_
            refine kd (v_mv) ?_
            refine kd (v_add) ?_
            refine kd (v_as) ?_
            refine kops_nil ?_
            refine kn_then ?_
            obtain rfl := e_some h33
            exact ⟨_, (a42, (aw31 ++ ([(⟨(gx v4.aw j38).t, (gx v4.aw j38).f, (gx v4.aw j38).w⟩ : Airway)] : List Airway)).length, c43), rfl, hd_mk trivial⟩
          ·
            replace h33 := e_f h33 hc37
            refine kwp_exit ?_
            refine ke_then ?_
            obtain rfl := e_some h33
            refine k_out ?_ rfl
            rintro rfl
            refine ke_block ?_
            exact ⟨(aw31a, aw31.length, aw31c), hd_mk trivial⟩
        · intro aw26 y45 _ h46
          obtain ⟨aw26a, aw26n, aw26c⟩ := y45
          refine k_len (c := aw26c) (fun hl47 => ?_)
          subst hl47
          refine kwp_seq ?_
          refine kwp_region ?_
          refine kd (v_mv) ?_
          obtain ⟨v49, hv48, h46⟩ := e_bind h46
          refine kk (n_call Tryd.call31 (w_impl_MatrixTurn q9a v8.length q9c q9R hq9R hv48) ?_)
          rintro _ _ ⟨q50a, q50c, q50R, rfl, hq50R, rfl⟩
          refine kd (v_mv) ?_
          obtain ⟨v52, hv51, h46⟩ := e_bind h46
          refine kk (n_call Tryd.call29 (w_laws_sameLists q50a v49.length q50c q50R q9a v8.length q9c q9R hq50R hq9R hv51) ?_)
          rintro _ _ ⟨rfl, rfl⟩
          refine kd (v_mv) ?_
          refine kops_split 60 rfl (fun hb54 => ?_) (fun hb54 => ?_)
          ·
            replace h46 := e_t h46 hb54
            refine kgd hb54 (v_ldB Tryd.isAgg32 Tryd.sizeOf32) ?_
            obtain ⟨v56, hv55, h46⟩ := e_bind h46
            refine kgk hb54 (n_call Tryd.call28 (w_impl_AirMatrix aw26a aw26.length aw26c hv55) ?_)
            rintro _ _ ⟨q57a, q57c, q57R, rfl, hq57R, rfl⟩
            refine kgd hb54 (v_mv) ?_
            obtain ⟨v59, hv58, h46⟩ := e_bind h46
            refine kgk hb54 (n_call Tryd.call29 (w_laws_sameLists q57a v56.length q57c q57R q9a v8.length q9c q9R hq57R hq9R hv58) ?_)
            rintro _ _ ⟨rfl, rfl⟩
            refine kd (v_pt hb54) ?_
            refine kd (v_as) ?_
            refine kops_nil ?_
            refine kn_then ?_
            refine kwp_ret ?_
            obtain rfl := e_some h46
            refine r1 [] ?_
            exact ⟨rfl, rfl⟩
          ·
            replace h46 := e_f h46 hb54
            refine kskip hb54 ?_
            refine kskip hb54 ?_
            refine kskip hb54 ?_
            refine kskip hb54 ?_
            refine kd (v_pf hb54) ?_
            refine kd (v_as) ?_
            refine kops_nil ?_
            refine kn_then ?_
            refine kwp_ret ?_
            obtain rfl := e_some h46
            refine r1 [] ?_
            exact ⟨rfl, rfl⟩

end Go.Proofs.YtpfijnklnljccaaDoor
