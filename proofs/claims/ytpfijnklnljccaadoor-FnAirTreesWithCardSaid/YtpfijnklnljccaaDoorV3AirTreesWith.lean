/- What the plain programs return, the functions of the program return; no condition. -/
import Derived.Test.YtpfijnklnljccaaDoorQ3AirTreesWith
import Derived.Test.YtpfijnklnljccaaDoorFa
import Derived.Test.YtpfijnklnljccaaDoorVbm
import Derived.Test.YtpfijnklnljccaaDoorVbt
import Derived.Test.YtpfijnklnljccaaDoorVbs
import Derived.Test.YtpfijnklnljccaaDoorVba
namespace Go.Proofs.YtpfijnklnljccaaDoor
open Go
set_option linter.unusedVariables false
set_option linter.unusedSimpArgs false

set_option maxRecDepth 20000 in
theorem w_spec_DrawAirTreesWith (code0a : Option Addr) (code0n : Nat) (code0c : Nat) {code0 : List UInt8} {r : Mine × Int} (h : p_spec_DrawAirTreesWith code0 = some r) :
    Triple Tryd.prog 42 [.slice code0a code0n code0c] [⟨.slice code0a code0n code0c, 1, code0.map encB⟩] [] (fun v ch => ∃ (w01a : Option Addr) (w01c : Nat), v = .tuple #[.agg #[.int .i64 r.1.p, .slice w01a r.1.aw.length w01c], .int .i64 r.2] ∧ ch = [⟨.slice w01a r.1.aw.length w01c, 3, r.1.aw.map encAirway⟩]) := by
  refine triple_start 14 Tryd.func42 Tryd.ntmps42 rfl rfl (fun w0 => ?_)
  refine k_len (c := code0c) (fun hl1 => ?_)
  subst hl1
  unfold p_spec_DrawAirTreesWith at h
  refine kwp_seq ?_
  refine kwp_region ?_
  refine kops_nilchunk 3 (by decide) ?_
  refine kk (n_alloc (e := [.int .i64 0, .slice none 0 0]) 2 Tryd.zeroValue32 (fun p2_2 => ?_))
  refine kd (v_as) ?_
  refine kops_nil ?_
  refine kn_then ?_
  refine kwp_seq ?_
  refine kwp_region ?_
  refine kd (v_mv) ?_
  obtain ⟨v4, hv3, h⟩ := e_bind h
  refine kk (n_call Tryd.call57 (w_spec_l20Open code0a code0.length code0c hv3) ?_)
  rintro _ _ ⟨q5p, q50a, q50c, rfl, hvwq5, rfl⟩
  refine kd (v_as) ?_
  refine kops_nil ?_
  refine kn_then ?_
  refine kwp_seq ?_
  refine kwp_region ?_
  refine kd (v_mv) ?_
  obtain ⟨⟨v7, v8⟩, hv6, h⟩ := e_bind h
  refine kk (n_call Tryd.call62 (w_spec_l20Mine q5p q50a v4.b.length q50c hv6) ?_ (hv := (Views.cons (by repeat (first | exact mh | apply mt | apply mas | apply ms)) hvwq5 (Views.nil _))))
  rintro _ _ ⟨q91a, q91c, rfl, rfl⟩
  refine kops_nilchunk 3 (by decide) ?_
  refine kk (n_alloc (e := [.int .i64 0, .slice none 0 0]) 2 Tryd.zeroValue32 (fun p5_10 => ?_))
  refine kk (s_B (e' := [.int .i64 v7.p, .slice q91a v7.aw.length q91c]) Tryd.sizeOf32 ?_)
  refine kops_nil ?_
  refine kn_then ?_
  refine kwp_seq ?_
  obtain ⟨⟨v12, v13⟩, hv11, h⟩ := e_bind h
  refine kwp_tree (.quiet 0 (.quiet 1 (.quiet 2 (.one 3 (.one 4 (.quiet 5 .stop)))))) [] [⟨.pointer (some p5_10), 2, [[.int .i64 v7.p, .slice q91a v7.aw.length q91c]]⟩] drawMixed (by kernel_rfl) nopan (by (repeat (first | exact Sub.refl _ | exact Sub.nil _ | refine Sub.chunk (by repeat (first | exact Pick.here | apply Pick.there | apply Pick.seg)) (by rfl) ?_ | refine Sub.seg (by repeat (first | exact PickSeg.here | exact PickSeg.all | apply PickSeg.there | apply PickSeg.seg)) ?_ | exact Sub.seg0 (by repeat (first | exact PickSeg.here | exact PickSeg.all | apply PickSeg.there | apply PickSeg.seg)) | apply Sub.assoc))) ?_
  refine kt_d rfl rfl rfl (v_ldB Tryd.isAgg32 Tryd.sizeOf32) ?_
  refine kt_d rfl rfl rfl (v_mv) ?_
  refine kt_d rfl rfl rfl (v_ldB Tryd.isAgg32 Tryd.sizeOf32) ?_
  refine kt_one ?_
  refine kl_k rfl rfl (n_call Tryd.call64 (w_spec_l20Airway q5p q50a v4.b.length q50c q91a v7.aw.length q91c hv11) ?_ (hv := (Views.cons (by repeat (first | exact mh | apply mt | apply mas | apply ms)) hvwq5 (Views.cons (by repeat (first | exact mh | apply mt | apply mas | apply ms)) (View.refl _) (Views.nil _)))))
  rintro _ _ ⟨rfl, rfl⟩
  refine ⟨.inl (by (repeat (first | exact Sub.refl _ | exact Sub.nil _ | refine Sub.chunk (by repeat (first | exact Pick.here | apply Pick.there | apply Pick.seg)) (by rfl) ?_ | refine Sub.seg (by repeat (first | exact PickSeg.here | exact PickSeg.all | apply PickSeg.there | apply PickSeg.seg)) ?_ | exact Sub.seg0 (by repeat (first | exact PickSeg.here | exact PickSeg.all | apply PickSeg.there | apply PickSeg.seg)) | apply Sub.assoc))), ?_⟩
  refine kt_one ?_
  refine kl_k rfl rfl (s_B (e' := [.int .i64 v7.p, .slice q91a v7.aw.length q91c]) Tryd.sizeOf32 ?_)
  refine ⟨.inl (by (repeat (first | exact Sub.refl _ | exact Sub.nil _ | refine Sub.chunk (by repeat (first | exact Pick.here | apply Pick.there | apply Pick.seg)) (by rfl) ?_ | refine Sub.seg (by repeat (first | exact PickSeg.here | exact PickSeg.all | apply PickSeg.there | apply PickSeg.seg)) ?_ | exact Sub.seg0 (by repeat (first | exact PickSeg.here | exact PickSeg.all | apply PickSeg.there | apply PickSeg.seg)) | apply Sub.assoc))), ?_⟩
  refine kt_d rfl rfl rfl (v_as) ?_
  refine kt_nil ?_
  refine kn_then ?_
  refine kwp_ret ?_
  obtain rfl := e_some h
  refine rc1 Tryd.isAgg32 Tryd.sizeOf32 [⟨.slice q91a v7.aw.length q91c, 3, v7.aw.map encAirway⟩] ?_
  exact ⟨q91a, q91c, rfl, rfl⟩

set_option maxRecDepth 20000 in
set_option maxHeartbeats 2000000 in
theorem w_laws_FnAirTreesWith (code0a : Option Addr) (code0n : Nat) (code0c : Nat) {code0 : List UInt8} {r : Bool} (h : p_laws_FnAirTreesWith code0 = some r) :
    Triple Tryd.prog 10 [.slice code0a code0n code0c] [⟨.slice code0a code0n code0c, 1, code0.map encB⟩, tabC] [] (fun v ch => v = .bool r ∧ ch = []) := by
  refine triple_start 73 Tryd.func10 Tryd.ntmps10 rfl rfl (fun w0 => ?_)
  refine k_len (c := code0c) (fun hl1 => ?_)
  subst hl1
  unfold p_laws_FnAirTreesWith at h
  refine kwp_seq ?_
  refine kwp_region ?_
  refine kd (v_as) ?_
  refine kops_nil ?_
  refine kn_then ?_
  refine kwp_seq ?_
  refine kwp_seq ?_
  refine kwp_region ?_
  refine kd (v_mv) ?_
  refine kd (v_len Tryd.runUnderlying22) ?_
  refine kd (v_cmp) ?_
  refine kops_nil ?_
  refine kn_then ?_
  refine kwp_cond rfl (fun hc2 => ?_) (fun hc2 => ?_)
  ·
    replace h := e_t h hc2
    refine kwp_seq ?_
    refine kwp_region ?_
    refine kd (v_as) ?_
    refine kops_nil ?_
    refine kn_then ?_
    refine kwp_ret ?_
    refine kr_then ?_
    obtain rfl := e_some h
    refine r1 [] ?_
    exact ⟨rfl, rfl⟩
  ·
    replace h := e_f h hc2
    refine kwp_skip ?_
    refine kn_then ?_
    refine kwp_seq ?_
    refine kwp_region ?_
    refine kd (v_mv) ?_
    obtain ⟨⟨v4, v5⟩, hv3, h⟩ := e_bind h
    refine kk (n_call Tryd.call42 (w_spec_DrawAirTreesWith code0a code0.length code0c hv3) ?_)
    rintro _ _ ⟨q61a, q61c, rfl, rfl⟩
    refine kd (v_mv) ?_
    refine kd (v_ex) ?_
    refine kd (v_ex) ?_
    refine kops_nilchunk 3 (by decide) ?_
    refine kk (n_alloc (e := [.int .i64 0, .slice none 0 0]) 2 Tryd.zeroValue32 (fun p3_8 => ?_))
    refine kk (s_B (e' := [.int .i64 v4.p, .slice q61a v4.aw.length q61c]) Tryd.sizeOf32 ?_)
    refine kd (v_as) ?_
    refine kops_nil ?_
    refine kn_then ?_
    refine kwp_seq ?_
    refine kwp_region ?_
    refine kd (v_ldB Tryd.isAgg32 Tryd.sizeOf32) ?_
    refine kd (v_mv) ?_
    obtain ⟨v10, hv9, h⟩ := e_bind h
    refine kk (n_call Tryd.call41 (w_impl_AirTreesWith q61a v4.aw.length q61c hv9) ?_)
    rintro _ _ ⟨rfl, rfl⟩
    refine kd (v_as) ?_
    refine kops_nil ?_
    refine kn_then ?_
    refine kwp_seq ?_
    refine kwp_seq ?_
    refine kwp_region ?_
    refine kd (v_mv) ?_
    refine kd (v_ldB Tryd.isAgg32 Tryd.sizeOf32) ?_
    refine kd (v_mv) ?_
    obtain ⟨v13, hv12, h⟩ := e_bind h
    refine kk (n_call Tryd.call43 (w_spec_AirTreesWith q61a v4.aw.length q61c hv12) ?_)
    rintro _ _ ⟨rfl, rfl⟩
    refine kd (v_cmp) ?_
    refine kops_nil ?_
    refine kn_then ?_
    refine kwp_cond rfl (fun hc15 => ?_) (fun hc15 => ?_)
    ·
      replace h := e_t h hc15
      refine kwp_seq ?_
      refine kwp_region ?_
      refine kd (v_as) ?_
      refine kops_nil ?_
      refine kn_then ?_
      refine kwp_ret ?_
      refine kr_then ?_
      obtain rfl := e_some h
      refine r1 [] ?_
      exact ⟨rfl, rfl⟩
    ·
      replace h := e_f h hc15
      refine kwp_skip ?_
      refine kn_then ?_
      refine kwp_seq ?_
      refine kwp_seq ?_
      refine kwp_region ?_
      refine kd (v_mv) ?_
      refine kd (v_cmp) ?_
      refine kops_nil ?_
      refine kn_then ?_
      refine kwp_cond rfl (fun hc16 => ?_) (fun hc16 => ?_)
      ·
        replace h := e_t h hc16
        refine kwp_seq ?_
        refine kwp_region ?_
        refine kd (v_mv) ?_
        refine kd (v_cmp) ?_
        refine kd (v_mv) ?_
        refine kops_split 28 rfl (fun hb17 => ?_) (fun hb17 => ?_)
        ·
          replace h := e_t h hb17
          obtain ⟨v19, hv18, h⟩ := e_bind h
          refine kgk hb17 (n_call Tryd.call18 (w_laws_alive hv18) ?_)
          rintro _ _ ⟨rfl, rfl⟩
          refine kd (v_pt hb17) ?_
          refine kd (v_as) ?_
          refine kops_nil ?_
          refine kn_then ?_
          refine kwp_ret ?_
          refine kr_then ?_
          obtain rfl := e_some h
          refine r1 [] ?_
          exact ⟨rfl, rfl⟩
        ·
          replace h := e_f h hb17
          refine kskip hb17 ?_
          refine kd (v_pf hb17) ?_
          refine kd (v_as) ?_
          refine kops_nil ?_
          refine kn_then ?_
          refine kwp_ret ?_
          refine kr_then ?_
          obtain rfl := e_some h
          refine r1 [] ?_
          exact ⟨rfl, rfl⟩
      ·
        replace h := e_f h hc16
        refine kwp_skip ?_
        refine kn_then ?_
        refine kwp_seq ?_
        obtain ⟨j21, ej21, nj21, h⟩ := e_idx h
        obtain ⟨⟨v23, v24⟩, hv22, h⟩ := e_bind h
        refine kwp_tree (.quiet 0 (.quiet 1 (.quiet 2 (.quiet 3 (.quiet 4 (.quiet 5 (.quiet 6 (.quiet 7 (.quiet 8 (.quiet 9 (.quiet 10 (.quiet 11 (.quiet 12 (.one 13 (.quiet 14 (.quiet 15 (.quiet 16 (.quiet 17 (.quiet 18 .stop))))))))))))))))))) [] [⟨.slice q61a v4.aw.length q61c, 3, v4.aw.map encAirway⟩, ⟨.pointer (some p3_8), 2, [[.int .i64 v4.p, .slice q61a v4.aw.length q61c]]⟩] drawMixed (by kernel_rfl) nopan (by (repeat (first | exact Sub.refl _ | exact Sub.nil _ | refine Sub.chunk (by repeat (first | exact Pick.here | apply Pick.there | apply Pick.seg)) (by rfl) ?_ | refine Sub.seg (by repeat (first | exact PickSeg.here | exact PickSeg.all | apply PickSeg.there | apply PickSeg.seg)) ?_ | exact Sub.seg0 (by repeat (first | exact PickSeg.here | exact PickSeg.all | apply PickSeg.there | apply PickSeg.seg)) | apply Sub.assoc))) ?_
        refine kt_d rfl rfl rfl (v_ldB Tryd.isAgg32 Tryd.sizeOf32) ?_
        refine kt_d rfl rfl rfl (v_fb fa_32_1) ?_
        refine kt_d rfl rfl rfl (v_ldb Tryd.isAgg30) ?_
        refine kt_d rfl rfl rfl (v_mv) ?_
        refine kt_d rfl rfl rfl (v_ia ej21 nj21 Tryd.runUnderlying30 Tryd.sizeOf36) ?_
        refine kt_d rfl rfl rfl (v_fa nj21 fa_36_0) ?_
        refine kt_d rfl rfl rfl (v_ldf nj21 Tryd.isAgg3) ?_
        refine kt_d rfl rfl rfl (v_fb fa_32_1) ?_
        refine kt_d rfl rfl rfl (v_ldb Tryd.isAgg30) ?_
        refine kt_d rfl rfl rfl (v_mv) ?_
        refine kt_d rfl rfl rfl (v_ia ej21 nj21 Tryd.runUnderlying30 Tryd.sizeOf36) ?_
        refine kt_d rfl rfl rfl (v_fa nj21 fa_36_1) ?_
        refine kt_d rfl rfl rfl (v_ldf nj21 Tryd.isAgg3) ?_
        refine kt_one ?_
        refine kl_k rfl rfl (n_call Tryd.call44 (w_impl_AirFlow q61a v4.aw.length q61c hv22) ?_)
        rintro _ _ ⟨q25a, q25c, rfl, rfl⟩
        refine ⟨.inl (by (repeat (first | exact Sub.refl _ | exact Sub.nil _ | refine Sub.chunk (by repeat (first | exact Pick.here | apply Pick.there | apply Pick.seg)) (by rfl) ?_ | refine Sub.seg (by repeat (first | exact PickSeg.here | exact PickSeg.all | apply PickSeg.there | apply PickSeg.seg)) ?_ | exact Sub.seg0 (by repeat (first | exact PickSeg.here | exact PickSeg.all | apply PickSeg.there | apply PickSeg.seg)) | apply Sub.assoc))), ?_⟩
        refine kt_d rfl rfl rfl (v_mv) ?_
        refine kt_d rfl rfl rfl (v_ex) ?_
        refine kt_d rfl rfl rfl (v_ex) ?_
        refine kt_d rfl rfl rfl (v_as) ?_
        refine kt_d rfl rfl rfl (v_as) ?_
        refine kt_nil ?_
        refine kn_then ?_
        refine kwp_seq ?_
        refine kwp_region ?_
        refine kd (v_mv) ?_
        refine kd (v_not) ?_
        refine kd (v_mv) ?_
        refine kops_split 50 rfl (fun hb27 => ?_) (fun hb27 => ?_)
        ·
          replace h := e_t h hb27
          refine kgd hb27 (v_mv) ?_
          refine kgd hb27 (v_cmp) ?_
          refine kd (v_pt hb27) ?_
          refine kd (v_mv) ?_
          refine kops_split 54 rfl (fun hb28 => ?_) (fun hb28 => ?_)
          ·
            replace h := e_t h hb28
            refine kskip hb28 ?_
            refine kskip hb28 ?_
            refine kops_skipU ?_
            refine kops_skipU ?_
            refine kops_skipU ?_
            refine kops_skipU ?_
            refine kops_skipU ?_
            refine kops_skipU ?_
            refine kskip hb28 ?_
            refine kskip hb28 ?_
            refine kops_skipU ?_
            refine kops_skipU ?_
            refine kops_skipU ?_
            refine kops_skipU ?_
            refine kops_skipU ?_
            refine kops_skipU ?_
            refine kskip hb28 ?_
            refine kd (v_pt hb28) ?_
            refine kd (v_as) ?_
            refine kops_nil ?_
            refine kn_then ?_
            refine kwp_ret ?_
            obtain rfl := e_some h
            refine r1 [] ?_
            exact ⟨rfl, rfl⟩
          ·
            replace h := e_f h hb28
            refine kgd hb28 (v_mv) ?_
            refine kgd hb28 (v_mv) ?_
            refine kops_split 56 rfl (fun hb29 => ?_) (fun hb29 => ?_)
            ·
              replace h := e_t h hb29
              refine kgd hb29 (v_mv) ?_
              refine kgd hb29 (v_len Tryd.runUnderlying46) ?_
              refine kgd hb29 (v_fb fa_32_1) ?_
              refine kgd hb29 (v_ldb Tryd.isAgg30) ?_
              refine kgd hb29 (v_len Tryd.runUnderlying30) ?_
              refine kgd hb29 (v_cmp) ?_
              refine kgd hb28 (v_pt hb29) ?_
              refine kgd hb28 (v_mv) ?_
              refine kops_split 64 rfl (fun hb30 => ?_) (fun hb30 => ?_)
              ·
                replace h := e_t h hb30
                refine kgd hb30 (v_mv) ?_
                refine kgd hb30 (v_mv) ?_
                obtain ⟨j31, ej31, nj31, h⟩ := e_idx h
                refine kgd hb30 (v_ia ej31 nj31 Tryd.runUnderlying46 Tryd.sizeOf3) ?_
                refine kgd hb30 (v_ldf nj31 Tryd.isAgg3) ?_
                refine kgd hb30 (v_mv) ?_
                refine kgd hb30 (v_cmp) ?_
                refine kgd hb28 (v_pt hb30) ?_
                refine kd (v_pf hb28) ?_
                refine kd (v_as) ?_
                refine kops_nil ?_
                refine kn_then ?_
                refine kwp_ret ?_
                obtain rfl := e_some h
                refine r1 [] ?_
                exact ⟨rfl, rfl⟩
              ·
                replace h := e_f h hb30
                refine kskip hb30 ?_
                refine kskip hb30 ?_
                refine kskip hb30 ?_
                refine kskip hb30 ?_
                refine kskip hb30 ?_
                refine kskip hb30 ?_
                refine kgd hb28 (v_pf hb30) ?_
                refine kd (v_pf hb28) ?_
                refine kd (v_as) ?_
                refine kops_nil ?_
                refine kn_then ?_
                refine kwp_ret ?_
                obtain rfl := e_some h
                refine r1 [] ?_
                exact ⟨rfl, rfl⟩
            ·
              replace h := e_f h hb29
              refine kskip hb29 ?_
              refine kskip hb29 ?_
              refine kskip hb29 ?_
              refine kskip hb29 ?_
              refine kskip hb29 ?_
              refine kskip hb29 ?_
              refine kgd hb28 (v_pf hb29) ?_
              refine kgd hb28 (v_mv) ?_
              refine kskip rfl ?_
              refine kskip rfl ?_
              refine kskip rfl ?_
              refine kskip rfl ?_
              refine kskip rfl ?_
              refine kskip rfl ?_
              refine kgd hb28 (v_pf rfl) ?_
              refine kd (v_pf hb28) ?_
              refine kd (v_as) ?_
              refine kops_nil ?_
              refine kn_then ?_
              refine kwp_ret ?_
              obtain rfl := e_some h
              refine r1 [] ?_
              exact ⟨rfl, rfl⟩
        ·
          replace h := e_f h hb27
          refine kskip hb27 ?_
          refine kskip hb27 ?_
          refine kd (v_pf hb27) ?_
          refine kd (v_mv) ?_
          refine kgd rfl (v_mv) ?_
          refine kgd rfl (v_mv) ?_
          refine kops_split 56 rfl (fun hb32 => ?_) (fun hb32 => ?_)
          ·
            replace h := e_t h hb32
            refine kgd hb32 (v_mv) ?_
            refine kgd hb32 (v_len Tryd.runUnderlying46) ?_
            refine kgd hb32 (v_fb fa_32_1) ?_
            refine kgd hb32 (v_ldb Tryd.isAgg30) ?_
            refine kgd hb32 (v_len Tryd.runUnderlying30) ?_
            refine kgd hb32 (v_cmp) ?_
            refine kgd rfl (v_pt hb32) ?_
            refine kgd rfl (v_mv) ?_
            refine kops_split 64 rfl (fun hb33 => ?_) (fun hb33 => ?_)
            ·
              replace h := e_t h hb33
              refine kgd hb33 (v_mv) ?_
              refine kgd hb33 (v_mv) ?_
              obtain ⟨j34, ej34, nj34, h⟩ := e_idx h
              refine kgd hb33 (v_ia ej34 nj34 Tryd.runUnderlying46 Tryd.sizeOf3) ?_
              refine kgd hb33 (v_ldf nj34 Tryd.isAgg3) ?_
              refine kgd hb33 (v_mv) ?_
              refine kgd hb33 (v_cmp) ?_
              refine kgd rfl (v_pt hb33) ?_
              refine kd (v_pf rfl) ?_
              refine kd (v_as) ?_
              refine kops_nil ?_
              refine kn_then ?_
              refine kwp_ret ?_
              obtain rfl := e_some h
              refine r1 [] ?_
              exact ⟨rfl, rfl⟩
            ·
              replace h := e_f h hb33
              refine kskip hb33 ?_
              refine kskip hb33 ?_
              refine kskip hb33 ?_
              refine kskip hb33 ?_
              refine kskip hb33 ?_
              refine kskip hb33 ?_
              refine kgd rfl (v_pf hb33) ?_
              refine kd (v_pf rfl) ?_
              refine kd (v_as) ?_
              refine kops_nil ?_
              refine kn_then ?_
              refine kwp_ret ?_
              obtain rfl := e_some h
              refine r1 [] ?_
              exact ⟨rfl, rfl⟩
          ·
            replace h := e_f h hb32
            refine kskip hb32 ?_
            refine kskip hb32 ?_
            refine kskip hb32 ?_
            refine kskip hb32 ?_
            refine kskip hb32 ?_
            refine kskip hb32 ?_
            refine kgd rfl (v_pf hb32) ?_
            refine kgd rfl (v_mv) ?_
            refine kskip rfl ?_
            refine kskip rfl ?_
            refine kskip rfl ?_
            refine kskip rfl ?_
            refine kskip rfl ?_
            refine kskip rfl ?_
            refine kgd rfl (v_pf rfl) ?_
            refine kd (v_pf rfl) ?_
            refine kd (v_as) ?_
            refine kops_nil ?_
            refine kn_then ?_
            refine kwp_ret ?_
            obtain rfl := e_some h
            refine r1 [] ?_
            exact ⟨rfl, rfl⟩

end Go.Proofs.YtpfijnklnljccaaDoor
