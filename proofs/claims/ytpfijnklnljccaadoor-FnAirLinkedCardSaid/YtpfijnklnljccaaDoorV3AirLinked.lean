/- What the plain programs return, the functions of the program return; no condition. -/
import Derived.Test.YtpfijnklnljccaaDoorQ3AirLinked
import Derived.Test.YtpfijnklnljccaaDoorFa
import Derived.Test.YtpfijnklnljccaaDoorVbm
import Derived.Test.YtpfijnklnljccaaDoorVbt
import Derived.Test.YtpfijnklnljccaaDoorVbp
import Derived.Test.YtpfijnklnljccaaDoorVbd
namespace Go.Proofs.YtpfijnklnljccaaDoor
open Go
set_option linter.unusedVariables false
set_option linter.unusedSimpArgs false

set_option maxRecDepth 20000 in
theorem w_spec_DrawAirLinked (code0a : Option Addr) (code0n : Nat) (code0c : Nat) {code0 : List UInt8} {r : Mine} (h : p_spec_DrawAirLinked code0 = some r) :
    Triple Tryd.prog 35 [.slice code0a code0n code0c] [⟨.slice code0a code0n code0c, 1, code0.map encB⟩] [] (fun v ch => ∃ (w01a : Option Addr) (w01c : Nat), v = .agg #[.int .i64 r.p, .slice w01a r.aw.length w01c] ∧ ch = [⟨.slice w01a r.aw.length w01c, 3, r.aw.map encAirway⟩]) := by
  refine triple_start 6 Tryd.func35 Tryd.ntmps35 rfl rfl (fun w0 => ?_)
  refine k_len (c := code0c) (fun hl1 => ?_)
  subst hl1
  unfold p_spec_DrawAirLinked at h
  refine kwp_seq ?_
  refine kwp_region ?_
  refine kops_nilchunk 3 (by decide) ?_
  refine kk (n_alloc (e := [.int .i64 0, .slice none 0 0]) 2 Tryd.zeroValue32 (fun p2_2 => ?_))
  refine kops_nil ?_
  refine kn_then ?_
  refine kwp_seq ?_
  refine kwp_region ?_
  refine kd (v_mv) ?_
  obtain ⟨v4, hv3, h⟩ := e_bind h
  refine kk (n_call Tryd.call57 (w_spec_l20Open code0a code0.length code0c hv3) ?_)
  rintro _ _ ⟨q5p, q50a, q50c, rfl, hvwq5, rfl⟩
  obtain ⟨⟨v7, v8⟩, hv6, h⟩ := e_bind h
  refine kk (n_call Tryd.call62 (w_spec_l20Mine q5p q50a v4.b.length q50c hv6) ?_ (hv := (Views.cons (by repeat (first | exact mh | apply mt | apply mas | apply ms)) hvwq5 (Views.nil _))))
  rintro _ _ ⟨q91a, q91c, rfl, rfl⟩
  refine kk (s_B (e' := [.int .i64 v7.p, .slice q91a v7.aw.length q91c]) Tryd.sizeOf32 ?_)
  refine kops_nil ?_
  refine kn_then ?_
  refine kwp_ret ?_
  obtain rfl := e_some h
  refine rc Tryd.isAgg32 Tryd.sizeOf32 [⟨.slice q91a v7.aw.length q91c, 3, v7.aw.map encAirway⟩] ?_
  exact ⟨q91a, q91c, rfl, rfl⟩

set_option maxRecDepth 20000 in
theorem w_laws_FnAirLinked (code0a : Option Addr) (code0n : Nat) (code0c : Nat) {code0 : List UInt8} {r : Bool} (h : p_laws_FnAirLinked code0 = some r) :
    Triple Tryd.prog 8 [.slice code0a code0n code0c] [⟨.slice code0a code0n code0c, 1, code0.map encB⟩, tabC] [] (fun v ch => v = .bool r ∧ ch = []) := by
  refine triple_start 34 Tryd.func8 Tryd.ntmps8 rfl rfl (fun w0 => ?_)
  refine k_len (c := code0c) (fun hl1 => ?_)
  subst hl1
  unfold p_laws_FnAirLinked at h
  refine kwp_seq ?_
  refine kwp_region ?_
  refine kd (v_as) ?_
  refine kops_nil ?_
  refine kn_then ?_
  refine kwp_seq ?_
  refine kwp_seq ?_
  refine kwp_region ?_
  refine kd (v_mv) ?_
  refine kd (v_len Tryd.runUnderlying22) ?_
  refine kd (v_cmp) ?_
  refine kops_nil ?_
  refine kn_then ?_
  refine kwp_cond rfl (fun hc2 => ?_) (fun hc2 => ?_)
  ·
    replace h := e_t h hc2
    refine kwp_seq ?_
    refine kwp_region ?_
    refine kd (v_as) ?_
    refine kops_nil ?_
    refine kn_then ?_
    refine kwp_ret ?_
    refine kr_then ?_
    obtain rfl := e_some h
    refine r1 [] ?_
    exact ⟨rfl, rfl⟩
  ·
    replace h := e_f h hc2
    refine kwp_skip ?_
    refine kn_then ?_
    refine kwp_seq ?_
    refine kwp_region ?_
    refine kd (v_mv) ?_
    obtain ⟨v4, hv3, h⟩ := e_bind h
    refine kk (n_call Tryd.call35 (w_spec_DrawAirLinked code0a code0.length code0c hv3) ?_)
    rintro _ _ ⟨q51a, q51c, rfl, rfl⟩
    refine kops_nilchunk 3 (by decide) ?_
    refine kk (n_alloc (e := [.int .i64 0, .slice none 0 0]) 2 Tryd.zeroValue32 (fun p3_6 => ?_))
    refine kk (s_B (e' := [.int .i64 v4.p, .slice q51a v4.aw.length q51c]) Tryd.sizeOf32 ?_)
    refine kops_nil ?_
    refine kn_then ?_
    refine kwp_seq ?_
    refine kwp_region ?_
    refine kd (v_ldB Tryd.isAgg32 Tryd.sizeOf32) ?_
    obtain ⟨v8, hv7, h⟩ := e_bind h
    refine kk (n_call Tryd.call26 (w_impl_AirLinked q51a v4.aw.length q51c hv7) ?_)
    rintro _ _ ⟨rfl, rfl⟩
    refine kd (v_as) ?_
    refine kops_nil ?_
    refine kn_then ?_
    refine kwp_seq ?_
    refine kwp_seq ?_
    refine kwp_region ?_
    refine kd (v_mv) ?_
    refine kd (v_ldB Tryd.isAgg32 Tryd.sizeOf32) ?_
    obtain ⟨v11, hv10, h⟩ := e_bind h
    refine kk (n_call Tryd.call36 (w_spec_AirLinked q51a v4.aw.length q51c hv10) ?_)
    rintro _ _ ⟨rfl, rfl⟩
    refine kd (v_neb Tryd.underlying4) ?_
    refine kops_nil ?_
    refine kn_then ?_
    refine kwp_cond rfl (fun hc13 => ?_) (fun hc13 => ?_)
    ·
      replace h := e_t h hc13
      refine kwp_seq ?_
      refine kwp_region ?_
      refine kd (v_as) ?_
      refine kops_nil ?_
      refine kn_then ?_
      refine kwp_ret ?_
      refine kr_then ?_
      obtain rfl := e_some h
      refine r1 [] ?_
      exact ⟨rfl, rfl⟩
    ·
      replace h := e_f h hc13
      refine kwp_skip ?_
      refine kn_then ?_
      refine kwp_seq ?_
      refine kwp_nil 3 (by decide) ?_
      obtain ⟨v15, hv14, h⟩ := e_bind h
      refine sp (v8 == (decide (0 < v15))) (fun hb17 => ?_) (fun hb17 => ?_)
      ·
        replace h := e_t h hb17
        obtain ⟨v19, hv18, h⟩ := e_bind h
        refine sp (v19 == (v4.p == 1)) (fun hb21 => ?_) (fun hb21 => ?_)
        ·
          replace h := e_t h hb21
          obtain ⟨v23, hv22, h⟩ := e_bind h
          refine kwp_tree (.quiet 0 (.quiet 1 (.one 2 (.quiet 3 (.quiet 4 (.quiet 5 (.quiet 6 (.quiet 7 (.quiet 8 (.quiet 10 (.quiet 11 (.quiet 12 (.one 9 (.quiet 13 (.quiet 14 (.quiet 15 (.one 16 (.quiet 17 (.quiet 18 .stop))))))))))))))))))) [] [⟨.pointer (some p3_6), 2, [[.int .i64 v4.p, .slice q51a v4.aw.length q51c]]⟩] drawMixed (by kernel_rfl) nopan (by (repeat (first | exact Sub.refl _ | exact Sub.nil _ | refine Sub.chunk (by repeat (first | exact Pick.here | apply Pick.there | apply Pick.seg)) (by rfl) ?_ | refine Sub.seg (by repeat (first | exact PickSeg.here | exact PickSeg.all | apply PickSeg.there | apply PickSeg.seg)) ?_ | exact Sub.seg0 (by repeat (first | exact PickSeg.here | exact PickSeg.all | apply PickSeg.there | apply PickSeg.seg)) | apply Sub.assoc))) ?_
          refine kt_d rfl rfl rfl (v_mv) ?_
          refine kt_d rfl rfl rfl (v_ldB Tryd.isAgg32 Tryd.sizeOf32) ?_
          refine kt_one ?_
          refine kl_k rfl rfl (n_call Tryd.call37 (w_impl_AirTrees q51a v4.aw.length q51c hv14) ?_)
          rintro _ _ ⟨rfl, rfl⟩
          refine ⟨.inl (by (repeat (first | exact Sub.refl _ | exact Sub.nil _ | refine Sub.chunk (by repeat (first | exact Pick.here | apply Pick.there | apply Pick.seg)) (by rfl) ?_ | refine Sub.seg (by repeat (first | exact PickSeg.here | exact PickSeg.all | apply PickSeg.there | apply PickSeg.seg)) ?_ | exact Sub.seg0 (by repeat (first | exact PickSeg.here | exact PickSeg.all | apply PickSeg.there | apply PickSeg.seg)) | apply Sub.assoc))), ?_⟩
          refine kt_d rfl rfl rfl (v_cmp) ?_
          refine kt_d rfl rfl rfl (v_eqb Tryd.underlying4) ?_
          refine kt_d rfl rfl rfl (v_mv) ?_
          refine kt_gv rfl rfl rfl rfl hb17 (v_fb fa_32_0) ?_
          refine kt_gv rfl rfl rfl rfl hb17 (v_ldb Tryd.isAgg3) ?_
          refine kt_gv rfl rfl rfl rfl hb17 (v_bd [(0, _)] [_, .slice none 0 0] Tryd.zeroValue32 Tryd.runUnderlying32 pl_32) ?_
          refine kt_gv rfl rfl rfl rfl hb17 (v_fb fa_32_0) ?_
          refine kt_gv rfl rfl rfl rfl hb17 (v_ldb Tryd.isAgg3) ?_
          refine kt_gv rfl rfl rfl rfl hb17 (v_cmp) ?_
          refine kt_one ?_
          refine kl_gk rfl rfl rfl rfl hb17 (n_call Tryd.call26 (w_impl_AirLinked none 0 0 hv18) ?_)
          rintro _ _ ⟨rfl, rfl⟩
          refine ⟨.inl (by (repeat (first | exact Sub.refl _ | exact Sub.nil _ | refine Sub.chunk (by repeat (first | exact Pick.here | apply Pick.there | apply Pick.seg)) (by rfl) ?_ | refine Sub.seg (by repeat (first | exact PickSeg.here | exact PickSeg.all | apply PickSeg.there | apply PickSeg.seg)) ?_ | exact Sub.seg0 (by repeat (first | exact PickSeg.here | exact PickSeg.all | apply PickSeg.there | apply PickSeg.seg)) | apply Sub.assoc))), ?_⟩
          refine kt_gv rfl rfl rfl rfl hb17 (v_eqb Tryd.underlying4) ?_
          refine kt_d rfl rfl rfl (v_pt hb17) ?_
          refine kt_d rfl rfl rfl (v_mv) ?_
          refine kt_one ?_
          refine kl_gk rfl rfl rfl rfl hb21 (n_call Tryd.call18 (w_laws_alive hv22) ?_)
          rintro _ _ ⟨rfl, rfl⟩
          refine ⟨.inl (by (repeat (first | exact Sub.refl _ | exact Sub.nil _ | refine Sub.chunk (by repeat (first | exact Pick.here | apply Pick.there | apply Pick.seg)) (by rfl) ?_ | refine Sub.seg (by repeat (first | exact PickSeg.here | exact PickSeg.all | apply PickSeg.there | apply PickSeg.seg)) ?_ | exact Sub.seg0 (by repeat (first | exact PickSeg.here | exact PickSeg.all | apply PickSeg.there | apply PickSeg.seg)) | apply Sub.assoc))), ?_⟩
          refine kt_d rfl rfl rfl (v_pt hb21) ?_
          refine kt_d rfl rfl rfl (v_as) ?_
          refine kt_nil ?_
          refine kn_then ?_
          refine kwp_ret ?_
          obtain rfl := e_some h
          refine r1 [] ?_
          exact ⟨rfl, rfl⟩
        ·
          replace h := e_f h hb21
          refine kwp_tree (.quiet 0 (.quiet 1 (.one 2 (.quiet 3 (.quiet 4 (.quiet 5 (.quiet 6 (.quiet 7 (.quiet 8 (.quiet 10 (.quiet 11 (.quiet 12 (.one 9 (.quiet 13 (.quiet 14 (.quiet 15 (.one 16 (.quiet 17 (.quiet 18 .stop))))))))))))))))))) [] [⟨.pointer (some p3_6), 2, [[.int .i64 v4.p, .slice q51a v4.aw.length q51c]]⟩] drawMixed (by kernel_rfl) nopan (by (repeat (first | exact Sub.refl _ | exact Sub.nil _ | refine Sub.chunk (by repeat (first | exact Pick.here | apply Pick.there | apply Pick.seg)) (by rfl) ?_ | refine Sub.seg (by repeat (first | exact PickSeg.here | exact PickSeg.all | apply PickSeg.there | apply PickSeg.seg)) ?_ | exact Sub.seg0 (by repeat (first | exact PickSeg.here | exact PickSeg.all | apply PickSeg.there | apply PickSeg.seg)) | apply Sub.assoc))) ?_
          refine kt_d rfl rfl rfl (v_mv) ?_
          refine kt_d rfl rfl rfl (v_ldB Tryd.isAgg32 Tryd.sizeOf32) ?_
          refine kt_one ?_
          refine kl_k rfl rfl (n_call Tryd.call37 (w_impl_AirTrees q51a v4.aw.length q51c hv14) ?_)
          rintro _ _ ⟨rfl, rfl⟩
          refine ⟨.inl (by (repeat (first | exact Sub.refl _ | exact Sub.nil _ | refine Sub.chunk (by repeat (first | exact Pick.here | apply Pick.there | apply Pick.seg)) (by rfl) ?_ | refine Sub.seg (by repeat (first | exact PickSeg.here | exact PickSeg.all | apply PickSeg.there | apply PickSeg.seg)) ?_ | exact Sub.seg0 (by repeat (first | exact PickSeg.here | exact PickSeg.all | apply PickSeg.there | apply PickSeg.seg)) | apply Sub.assoc))), ?_⟩
          refine kt_d rfl rfl rfl (v_cmp) ?_
          refine kt_d rfl rfl rfl (v_eqb Tryd.underlying4) ?_
          refine kt_d rfl rfl rfl (v_mv) ?_
          refine kt_gv rfl rfl rfl rfl hb17 (v_fb fa_32_0) ?_
          refine kt_gv rfl rfl rfl rfl hb17 (v_ldb Tryd.isAgg3) ?_
          refine kt_gv rfl rfl rfl rfl hb17 (v_bd [(0, _)] [_, .slice none 0 0] Tryd.zeroValue32 Tryd.runUnderlying32 pl_32) ?_
          refine kt_gv rfl rfl rfl rfl hb17 (v_fb fa_32_0) ?_
          refine kt_gv rfl rfl rfl rfl hb17 (v_ldb Tryd.isAgg3) ?_
          refine kt_gv rfl rfl rfl rfl hb17 (v_cmp) ?_
          refine kt_one ?_
          refine kl_gk rfl rfl rfl rfl hb17 (n_call Tryd.call26 (w_impl_AirLinked none 0 0 hv18) ?_)
          rintro _ _ ⟨rfl, rfl⟩
          refine ⟨.inl (by (repeat (first | exact Sub.refl _ | exact Sub.nil _ | refine Sub.chunk (by repeat (first | exact Pick.here | apply Pick.there | apply Pick.seg)) (by rfl) ?_ | refine Sub.seg (by repeat (first | exact PickSeg.here | exact PickSeg.all | apply PickSeg.there | apply PickSeg.seg)) ?_ | exact Sub.seg0 (by repeat (first | exact PickSeg.here | exact PickSeg.all | apply PickSeg.there | apply PickSeg.seg)) | apply Sub.assoc))), ?_⟩
          refine kt_gv rfl rfl rfl rfl hb17 (v_eqb Tryd.underlying4) ?_
          refine kt_d rfl rfl rfl (v_pt hb17) ?_
          refine kt_d rfl rfl rfl (v_mv) ?_
          refine kt_one ?_
          refine kl_skip rfl rfl rfl rfl hb21 (by (repeat (first | exact Sub.refl _ | exact Sub.nil _ | refine Sub.chunk (by repeat (first | exact Pick.here | apply Pick.there | apply Pick.seg)) (by rfl) ?_ | refine Sub.seg (by repeat (first | exact PickSeg.here | exact PickSeg.all | apply PickSeg.there | apply PickSeg.seg)) ?_ | exact Sub.seg0 (by repeat (first | exact PickSeg.here | exact PickSeg.all | apply PickSeg.there | apply PickSeg.seg)) | apply Sub.assoc))) ?_
          refine kt_d rfl rfl rfl (v_pf hb21) ?_
          refine kt_d rfl rfl rfl (v_as) ?_
          refine kt_nil ?_
          refine kn_then ?_
          refine kwp_ret ?_
          obtain rfl := e_some h
          refine r1 [] ?_
          exact ⟨rfl, rfl⟩
      ·
        replace h := e_f h hb17
        refine kwp_tree (.quiet 0 (.quiet 1 (.one 2 (.quiet 3 (.quiet 4 (.quiet 5 (.quiet 6 (.quiet 7 (.quiet 8 (.quiet 10 (.quiet 11 (.quiet 12 (.one 9 (.quiet 13 (.quiet 14 (.quiet 15 (.one 16 (.quiet 17 (.quiet 18 .stop))))))))))))))))))) [] [⟨.pointer (some p3_6), 2, [[.int .i64 v4.p, .slice q51a v4.aw.length q51c]]⟩] drawMixed (by kernel_rfl) nopan (by (repeat (first | exact Sub.refl _ | exact Sub.nil _ | refine Sub.chunk (by repeat (first | exact Pick.here | apply Pick.there | apply Pick.seg)) (by rfl) ?_ | refine Sub.seg (by repeat (first | exact PickSeg.here | exact PickSeg.all | apply PickSeg.there | apply PickSeg.seg)) ?_ | exact Sub.seg0 (by repeat (first | exact PickSeg.here | exact PickSeg.all | apply PickSeg.there | apply PickSeg.seg)) | apply Sub.assoc))) ?_
        refine kt_d rfl rfl rfl (v_mv) ?_
        refine kt_d rfl rfl rfl (v_ldB Tryd.isAgg32 Tryd.sizeOf32) ?_
        refine kt_one ?_
        refine kl_k rfl rfl (n_call Tryd.call37 (w_impl_AirTrees q51a v4.aw.length q51c hv14) ?_)
        rintro _ _ ⟨rfl, rfl⟩
        refine ⟨.inl (by (repeat (first | exact Sub.refl _ | exact Sub.nil _ | refine Sub.chunk (by repeat (first | exact Pick.here | apply Pick.there | apply Pick.seg)) (by rfl) ?_ | refine Sub.seg (by repeat (first | exact PickSeg.here | exact PickSeg.all | apply PickSeg.there | apply PickSeg.seg)) ?_ | exact Sub.seg0 (by repeat (first | exact PickSeg.here | exact PickSeg.all | apply PickSeg.there | apply PickSeg.seg)) | apply Sub.assoc))), ?_⟩
        refine kt_d rfl rfl rfl (v_cmp) ?_
        refine kt_d rfl rfl rfl (v_eqb Tryd.underlying4) ?_
        refine kt_d rfl rfl rfl (v_mv) ?_
        refine kt_skip rfl rfl rfl rfl hb17 ?_
        refine kt_skip rfl rfl rfl rfl hb17 ?_
        refine kt_skip rfl rfl rfl rfl hb17 ?_
        refine kt_skip rfl rfl rfl rfl hb17 ?_
        refine kt_skip rfl rfl rfl rfl hb17 ?_
        refine kt_skip rfl rfl rfl rfl hb17 ?_
        refine kt_one ?_
        refine kl_skip rfl rfl rfl rfl hb17 (by (repeat (first | exact Sub.refl _ | exact Sub.nil _ | refine Sub.chunk (by repeat (first | exact Pick.here | apply Pick.there | apply Pick.seg)) (by rfl) ?_ | refine Sub.seg (by repeat (first | exact PickSeg.here | exact PickSeg.all | apply PickSeg.there | apply PickSeg.seg)) ?_ | exact Sub.seg0 (by repeat (first | exact PickSeg.here | exact PickSeg.all | apply PickSeg.there | apply PickSeg.seg)) | apply Sub.assoc))) ?_
        refine kt_skip rfl rfl rfl rfl hb17 ?_
        refine kt_d rfl rfl rfl (v_pf hb17) ?_
        refine kt_d rfl rfl rfl (v_mv) ?_
        refine kt_one ?_
        refine kl_skip rfl rfl rfl rfl rfl (by (repeat (first | exact Sub.refl _ | exact Sub.nil _ | refine Sub.chunk (by repeat (first | exact Pick.here | apply Pick.there | apply Pick.seg)) (by rfl) ?_ | refine Sub.seg (by repeat (first | exact PickSeg.here | exact PickSeg.all | apply PickSeg.there | apply PickSeg.seg)) ?_ | exact Sub.seg0 (by repeat (first | exact PickSeg.here | exact PickSeg.all | apply PickSeg.there | apply PickSeg.seg)) | apply Sub.assoc))) ?_
        refine kt_d rfl rfl rfl (v_pf rfl) ?_
        refine kt_d rfl rfl rfl (v_as) ?_
        refine kt_nil ?_
        refine kn_then ?_
        refine kwp_ret ?_
        obtain rfl := e_some h
        refine r1 [] ?_
        exact ⟨rfl, rfl⟩

end Go.Proofs.YtpfijnklnljccaaDoor
