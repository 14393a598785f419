/- What the plain programs return, the functions of the program return; no condition. -/
import Derived.Test.YtpfijnklnljccaaDoorQ3FracLess
import Derived.Test.YtpfijnklnljccaaDoorFa
import Derived.Test.YtpfijnklnljccaaDoorVr
import Derived.Test.YtpfijnklnljccaaDoorVt
import Derived.Test.YtpfijnklnljccaaDoorVf
namespace Go.Proofs.YtpfijnklnljccaaDoor
open Go
set_option linter.unusedVariables false
set_option linter.unusedSimpArgs false

set_option maxRecDepth 20000 in
theorem w_spec_DrawFracLess (code0a : Option Addr) (code0n : Nat) (code0c : Nat) {code0 : List UInt8} {r : Frac × Frac} (h : p_spec_DrawFracLess code0 = some r) :
    Triple Tryd.prog 15 [.slice code0a code0n code0c] [⟨.slice code0a code0n code0c, 1, code0.map encB⟩] [] (fun v ch => v = .tuple #[.agg #[.int .i64 r.1.num, .int .i64 r.1.den], .agg #[.int .i64 r.2.num, .int .i64 r.2.den]] ∧ ch = []) := by
  refine triple_start 39 Tryd.func15 Tryd.ntmps15 rfl rfl (fun w0 => ?_)
  refine k_len (c := code0c) (fun hl1 => ?_)
  subst hl1
  unfold p_spec_DrawFracLess at h
  refine kwp_seq ?_
  refine kwp_region ?_
  refine kk (n_alloc (e := [.int .i64 0, .int .i64 0]) 2 Tryd.zeroValue24 (fun p2_2 => ?_))
  refine kk (n_alloc (e := [.int .i64 0, .int .i64 0]) 2 Tryd.zeroValue24 (fun p3_3 => ?_))
  refine kops_nil ?_
  refine kn_then ?_
  refine kwp_seq ?_
  refine kwp_region ?_
  refine kd (v_mv) ?_
  obtain ⟨v5, hv4, h⟩ := e_bind h
  refine kk (n_call Tryd.call57 (w_spec_l20Open code0a code0.length code0c hv4) ?_)
  rintro _ _ ⟨q6p, q60a, q60c, rfl, hvwq6, rfl⟩
  refine kd (v_as) ?_
  refine kops_nil ?_
  refine kn_then ?_
  refine kwp_seq ?_
  refine kwp_region ?_
  refine kd (v_mv) ?_
  obtain ⟨⟨v8, v9⟩, hv7, h⟩ := e_bind h
  refine kk (n_call Tryd.call58 (w_spec_l20Rd_pick q6p q60a v5.b.length q60c hv7) ?_ (hv := (Views.cons (by repeat (first | exact mh | apply mt | apply mas | apply ms)) hvwq6 (Views.nil _))))
  rintro _ _ ⟨rfl, rfl⟩
  refine kd (v_sub) ?_
  refine kd (v_mv) ?_
  obtain ⟨⟨v12, v13⟩, hv11, h⟩ := e_bind h
  refine kk (n_call Tryd.call58 (w_spec_l20Rd_pick q6p q60a v5.b.length q60c hv11) ?_ (hv := (Views.cons (by repeat (first | exact mh | apply mt | apply mas | apply ms)) hvwq6 (Views.nil _))))
  rintro _ _ ⟨rfl, rfl⟩
  refine kd (v_add) ?_
  refine kd (v_mv) ?_
  obtain ⟨⟨v16, v17⟩, hv15, h⟩ := e_bind h
  refine kk (n_call Tryd.call58 (w_spec_l20Rd_pick q6p q60a v5.b.length q60c hv15) ?_ (hv := (Views.cons (by repeat (first | exact mh | apply mt | apply mas | apply ms)) hvwq6 (Views.nil _))))
  rintro _ _ ⟨rfl, rfl⟩
  refine kd (v_quo) ?_
  refine kd (v_mul) ?_
  refine kd (v_sub) ?_
  refine kd (v_bd [(0, _), (1, _)] [_, _] Tryd.zeroValue24 Tryd.runUnderlying24 pl_24) ?_
  refine kk (n_alloc (e := [.int .i64 0, .int .i64 0]) 2 Tryd.zeroValue24 (fun p5_19 => ?_))
  refine kk (s_B (e' := [.int .i64 (w64 (v8 - 40)), .int .i64 (w64 ((w64 (1 + v12)) - (w64 ((w64 (Int.tdiv v16 19)) * 40))))]) Tryd.sizeOf24 ?_)
  refine kops_nil ?_
  refine kn_then ?_
  refine kwp_seq ?_
  refine kwp_seq ?_
  refine kwp_region ?_
  refine kd (v_mv) ?_
  obtain ⟨⟨v21, v22⟩, hv20, h⟩ := e_bind h
  refine kk (n_call Tryd.call58 (w_spec_l20Rd_pick q6p q60a v5.b.length q60c hv20) ?_ (hv := (Views.cons (by repeat (first | exact mh | apply mt | apply mas | apply ms)) hvwq6 (Views.nil _))))
  rintro _ _ ⟨rfl, rfl⟩
  refine kd (v_cmp) ?_
  refine kops_nil ?_
  refine kn_then ?_
  refine kwp_cond rfl (fun hc24 => ?_) (fun hc24 => ?_)
  ·
    replace h := e_t h hc24
    refine kwp_seq ?_
    refine kwp_tree (.quiet 0 (.quiet 1 (.quiet 2 (.quiet 3 (.quiet 4 (.quiet 5 (.quiet 6 (.quiet 7 (.one 8 (.one 9 .stop)))))))))) [] [⟨.pointer (some p5_19), 2, [[.int .i64 (w64 (v8 - 40)), .int .i64 (w64 ((w64 (1 + v12)) - (w64 ((w64 (Int.tdiv v16 19)) * 40))))]]⟩] drawMixed (by kernel_rfl) nopan (by (repeat (first | exact Sub.refl _ | exact Sub.nil _ | refine Sub.chunk (by repeat (first | exact Pick.here | apply Pick.there | apply Pick.seg)) (by rfl) ?_ | refine Sub.seg (by repeat (first | exact PickSeg.here | exact PickSeg.all | apply PickSeg.there | apply PickSeg.seg)) ?_ | exact Sub.seg0 (by repeat (first | exact PickSeg.here | exact PickSeg.all | apply PickSeg.there | apply PickSeg.seg)) | apply Sub.assoc))) ?_
    refine kt_d rfl rfl rfl (v_ldB Tryd.isAgg24 Tryd.sizeOf24) ?_
    refine kt_d rfl rfl rfl (v_fb fa_24_0) ?_
    refine kt_d rfl rfl rfl (v_ldb Tryd.isAgg3) ?_
    refine kt_d rfl rfl rfl (v_mul) ?_
    refine kt_d rfl rfl rfl (v_fb fa_24_1) ?_
    refine kt_d rfl rfl rfl (v_ldb Tryd.isAgg3) ?_
    refine kt_d rfl rfl rfl (v_mul) ?_
    refine kt_d rfl rfl rfl (v_bd [(0, _), (1, _)] [_, _] Tryd.zeroValue24 Tryd.runUnderlying24 pl_24) ?_
    refine kt_one ?_
    refine kl_k rfl rfl (s_B (e' := [.int .i64 (w64 (v8 - 40)), .int .i64 (w64 ((w64 (1 + v12)) - (w64 ((w64 (Int.tdiv v16 19)) * 40))))]) Tryd.sizeOf24 ?_)
    refine ⟨.inl (by (repeat (first | exact Sub.refl _ | exact Sub.nil _ | refine Sub.chunk (by repeat (first | exact Pick.here | apply Pick.there | apply Pick.seg)) (by rfl) ?_ | refine Sub.seg (by repeat (first | exact PickSeg.here | exact PickSeg.all | apply PickSeg.there | apply PickSeg.seg)) ?_ | exact Sub.seg0 (by repeat (first | exact PickSeg.here | exact PickSeg.all | apply PickSeg.there | apply PickSeg.seg)) | apply Sub.assoc))), ?_⟩
    refine kt_one ?_
    refine kl_k rfl rfl (s_B (e' := [.int .i64 (w64 (2 * (w64 (v8 - 40)))), .int .i64 (w64 (2 * (w64 ((w64 (1 + v12)) - (w64 ((w64 (Int.tdiv v16 19)) * 40))))))]) Tryd.sizeOf24 ?_)
    refine ⟨.inl (by (repeat (first | exact Sub.refl _ | exact Sub.nil _ | refine Sub.chunk (by repeat (first | exact Pick.here | apply Pick.there | apply Pick.seg)) (by rfl) ?_ | refine Sub.seg (by repeat (first | exact PickSeg.here | exact PickSeg.all | apply PickSeg.there | apply PickSeg.seg)) ?_ | exact Sub.seg0 (by repeat (first | exact PickSeg.here | exact PickSeg.all | apply PickSeg.there | apply PickSeg.seg)) | apply Sub.assoc))), ?_⟩
    refine kt_nil ?_
    refine kn_then ?_
    refine kwp_ret ?_
    refine kr_then ?_
    obtain rfl := e_some h
    refine rcc Tryd.isAgg24 Tryd.sizeOf24 Tryd.isAgg24 Tryd.sizeOf24 [] ?_
    exact ⟨rfl, rfl⟩
  ·
    replace h := e_f h hc24
    refine kwp_skip ?_
    refine kn_then ?_
    refine kwp_seq ?_
    obtain ⟨⟨v26, v27⟩, hv25, h⟩ := e_bind h
    obtain ⟨⟨v30, v31⟩, hv29, h⟩ := e_bind h
    refine kwp_tree (.quiet 0 (.quiet 1 (.quiet 4 (.one 2 (.quiet 3 (.one 5 (.quiet 6 (.quiet 7 (.one 8 (.one 9 .stop)))))))))) [] [⟨.pointer (some p5_19), 2, [[.int .i64 (w64 (v8 - 40)), .int .i64 (w64 ((w64 (1 + v12)) - (w64 ((w64 (Int.tdiv v16 19)) * 40))))]]⟩] drawMixed (by kernel_rfl) nopan (by (repeat (first | exact Sub.refl _ | exact Sub.nil _ | refine Sub.chunk (by repeat (first | exact Pick.here | apply Pick.there | apply Pick.seg)) (by rfl) ?_ | refine Sub.seg (by repeat (first | exact PickSeg.here | exact PickSeg.all | apply PickSeg.there | apply PickSeg.seg)) ?_ | exact Sub.seg0 (by repeat (first | exact PickSeg.here | exact PickSeg.all | apply PickSeg.there | apply PickSeg.seg)) | apply Sub.assoc))) ?_
    refine kt_d rfl rfl rfl (v_ldB Tryd.isAgg24 Tryd.sizeOf24) ?_
    refine kt_d rfl rfl rfl (v_mv) ?_
    refine kt_d rfl rfl rfl (v_mv) ?_
    refine kt_one ?_
    refine kl_k rfl rfl (n_call Tryd.call58 (w_spec_l20Rd_pick q6p q60a v5.b.length q60c hv25) ?_ (hv := (Views.cons (by repeat (first | exact mh | apply mt | apply mas | apply ms)) hvwq6 (Views.nil _))))
    rintro _ _ ⟨rfl, rfl⟩
    refine ⟨.inl (by (repeat (first | exact Sub.refl _ | exact Sub.nil _ | refine Sub.chunk (by repeat (first | exact Pick.here | apply Pick.there | apply Pick.seg)) (by rfl) ?_ | refine Sub.seg (by repeat (first | exact PickSeg.here | exact PickSeg.all | apply PickSeg.there | apply PickSeg.seg)) ?_ | exact Sub.seg0 (by repeat (first | exact PickSeg.here | exact PickSeg.all | apply PickSeg.there | apply PickSeg.seg)) | apply Sub.assoc))), ?_⟩
    refine kt_d rfl rfl rfl (v_sub) ?_
    refine kt_one ?_
    refine kl_k rfl rfl (n_call Tryd.call58 (w_spec_l20Rd_pick q6p q60a v5.b.length q60c hv29) ?_ (hv := (Views.cons (by repeat (first | exact mh | apply mt | apply mas | apply ms)) hvwq6 (Views.nil _))))
    rintro _ _ ⟨rfl, rfl⟩
    refine ⟨.inl (by (repeat (first | exact Sub.refl _ | exact Sub.nil _ | refine Sub.chunk (by repeat (first | exact Pick.here | apply Pick.there | apply Pick.seg)) (by rfl) ?_ | refine Sub.seg (by repeat (first | exact PickSeg.here | exact PickSeg.all | apply PickSeg.there | apply PickSeg.seg)) ?_ | exact Sub.seg0 (by repeat (first | exact PickSeg.here | exact PickSeg.all | apply PickSeg.there | apply PickSeg.seg)) | apply Sub.assoc))), ?_⟩
    refine kt_d rfl rfl rfl (v_add) ?_
    refine kt_d rfl rfl rfl (v_bd [(0, _), (1, _)] [_, _] Tryd.zeroValue24 Tryd.runUnderlying24 pl_24) ?_
    refine kt_one ?_
    refine kl_k rfl rfl (s_B (e' := [.int .i64 (w64 (v8 - 40)), .int .i64 (w64 ((w64 (1 + v12)) - (w64 ((w64 (Int.tdiv v16 19)) * 40))))]) Tryd.sizeOf24 ?_)
    refine ⟨.inl (by (repeat (first | exact Sub.refl _ | exact Sub.nil _ | refine Sub.chunk (by repeat (first | exact Pick.here | apply Pick.there | apply Pick.seg)) (by rfl) ?_ | refine Sub.seg (by repeat (first | exact PickSeg.here | exact PickSeg.all | apply PickSeg.there | apply PickSeg.seg)) ?_ | exact Sub.seg0 (by repeat (first | exact PickSeg.here | exact PickSeg.all | apply PickSeg.there | apply PickSeg.seg)) | apply Sub.assoc))), ?_⟩
    refine kt_one ?_
    refine kl_k rfl rfl (s_B (e' := [.int .i64 (w64 (v26 - 40)), .int .i64 (w64 (1 + v30))]) Tryd.sizeOf24 ?_)
    refine ⟨.inl (by (repeat (first | exact Sub.refl _ | exact Sub.nil _ | refine Sub.chunk (by repeat (first | exact Pick.here | apply Pick.there | apply Pick.seg)) (by rfl) ?_ | refine Sub.seg (by repeat (first | exact PickSeg.here | exact PickSeg.all | apply PickSeg.there | apply PickSeg.seg)) ?_ | exact Sub.seg0 (by repeat (first | exact PickSeg.here | exact PickSeg.all | apply PickSeg.there | apply PickSeg.seg)) | apply Sub.assoc))), ?_⟩
    refine kt_nil ?_
    refine kn_then ?_
    refine kwp_ret ?_
    obtain rfl := e_some h
    refine rcc Tryd.isAgg24 Tryd.sizeOf24 Tryd.isAgg24 Tryd.sizeOf24 [] ?_
    exact ⟨rfl, rfl⟩

set_option maxRecDepth 20000 in
set_option maxHeartbeats 2000000 in
theorem w_laws_FnFracLess (code0a : Option Addr) (code0n : Nat) (code0c : Nat) {code0 : List UInt8} {r : Bool} (h : p_laws_FnFracLess code0 = some r) :
    Triple Tryd.prog 3 [.slice code0a code0n code0c] [⟨.slice code0a code0n code0c, 1, code0.map encB⟩, tabC] [] (fun v ch => v = .bool r ∧ ch = []) := by
  refine triple_start 50 Tryd.func3 Tryd.ntmps3 rfl rfl (fun w0 => ?_)
  refine k_len (c := code0c) (fun hl1 => ?_)
  subst hl1
  unfold p_laws_FnFracLess at h
  refine kwp_seq ?_
  refine kwp_region ?_
  refine kd (v_as) ?_
  refine kops_nil ?_
  refine kn_then ?_
  refine kwp_seq ?_
  refine kwp_seq ?_
  refine kwp_region ?_
  refine kd (v_mv) ?_
  refine kd (v_len Tryd.runUnderlying22) ?_
  refine kd (v_cmp) ?_
  refine kops_nil ?_
  refine kn_then ?_
  refine kwp_cond rfl (fun hc2 => ?_) (fun hc2 => ?_)
  ·
    replace h := e_t h hc2
    refine kwp_seq ?_
    refine kwp_region ?_
    refine kd (v_as) ?_
    refine kops_nil ?_
    refine kn_then ?_
    refine kwp_ret ?_
    refine kr_then ?_
    obtain rfl := e_some h
    refine r1 [] ?_
    exact ⟨rfl, rfl⟩
  ·
    replace h := e_f h hc2
    refine kwp_skip ?_
    refine kn_then ?_
    refine kwp_seq ?_
    refine kwp_region ?_
    refine kd (v_mv) ?_
    obtain ⟨⟨v4, v5⟩, hv3, h⟩ := e_bind h
    refine kk (n_call Tryd.call15 (w_spec_DrawFracLess code0a code0.length code0c hv3) ?_)
    rintro _ _ ⟨rfl, rfl⟩
    refine kd (v_mv) ?_
    refine kd (v_ex) ?_
    refine kd (v_ex) ?_
    refine kk (n_alloc (e := [.int .i64 0, .int .i64 0]) 2 Tryd.zeroValue24 (fun p3_8 => ?_))
    refine kk (n_alloc (e := [.int .i64 0, .int .i64 0]) 2 Tryd.zeroValue24 (fun p4_9 => ?_))
    refine kk (s_B (e' := [.int .i64 v4.num, .int .i64 v4.den]) Tryd.sizeOf24 ?_)
    refine kk (s_B (e' := [.int .i64 v5.num, .int .i64 v5.den]) Tryd.sizeOf24 ?_)
    refine kops_nil ?_
    refine kn_then ?_
    refine kwp_seq ?_
    refine kwp_region ?_
    refine kd (v_ldB Tryd.isAgg24 Tryd.sizeOf24) ?_
    refine kd (v_ldB Tryd.isAgg24 Tryd.sizeOf24) ?_
    obtain ⟨v11, hv10, h⟩ := e_bind h
    refine kk (n_call Tryd.call16 (w_impl_FracLess hv10) ?_)
    rintro _ _ ⟨rfl, rfl⟩
    refine kd (v_as) ?_
    refine kops_nil ?_
    refine kn_then ?_
    refine kwp_seq ?_
    refine kwp_seq ?_
    refine kwp_region ?_
    refine kd (v_mv) ?_
    refine kd (v_ldB Tryd.isAgg24 Tryd.sizeOf24) ?_
    refine kd (v_ldB Tryd.isAgg24 Tryd.sizeOf24) ?_
    obtain ⟨v14, hv13, h⟩ := e_bind h
    refine kk (n_call Tryd.call17 (w_spec_FracLess hv13) ?_)
    rintro _ _ ⟨rfl, rfl⟩
    refine kd (v_neb Tryd.underlying4) ?_
    refine kops_nil ?_
    refine kn_then ?_
    refine kwp_cond rfl (fun hc16 => ?_) (fun hc16 => ?_)
    ·
      replace h := e_t h hc16
      refine kwp_seq ?_
      refine kwp_region ?_
      refine kd (v_as) ?_
      refine kops_nil ?_
      refine kn_then ?_
      refine kwp_ret ?_
      refine kr_then ?_
      obtain rfl := e_some h
      refine r1 [] ?_
      exact ⟨rfl, rfl⟩
    ·
      replace h := e_f h hc16
      refine kwp_skip ?_
      refine kn_then ?_
      refine kwp_seq ?_
      refine kwp_region ?_
      refine kd (v_mv) ?_
      refine kd (v_mv) ?_
      refine kops_split 23 rfl (fun hb17 => ?_) (fun hb17 => ?_)
      ·
        replace h := e_t h hb17
        refine kgd hb17 (v_ldB Tryd.isAgg24 Tryd.sizeOf24) ?_
        refine kgd hb17 (v_ldB Tryd.isAgg24 Tryd.sizeOf24) ?_
        obtain ⟨v19, hv18, h⟩ := e_bind h
        refine kgk hb17 (n_call Tryd.call16 (w_impl_FracLess hv18) ?_)
        rintro _ _ ⟨rfl, rfl⟩
        refine kd (v_pt hb17) ?_
        refine kd (v_not) ?_
        refine kd (v_mv) ?_
        refine kops_split 29 rfl (fun hb21 => ?_) (fun hb21 => ?_)
        ·
          replace h := e_t h hb21
          refine kgd hb21 (v_ldB Tryd.isAgg24 Tryd.sizeOf24) ?_
          refine kgd hb21 (v_ldB Tryd.isAgg24 Tryd.sizeOf24) ?_
          obtain ⟨v23, hv22, h⟩ := e_bind h
          refine kgk hb21 (n_call Tryd.call16 (w_impl_FracLess hv22) ?_)
          rintro _ _ ⟨rfl, rfl⟩
          refine kgd hb21 (v_not) ?_
          refine kd (v_pt hb21) ?_
          refine kd (v_mv) ?_
          refine kops_split 35 rfl (fun hb25 => ?_) (fun hb25 => ?_)
          ·
            replace h := e_t h hb25
            refine kgd hb25 (v_ldB Tryd.isAgg24 Tryd.sizeOf24) ?_
            refine kgd hb25 (v_fb fa_24_0) ?_
            refine kgd hb25 (v_ldb Tryd.isAgg3) ?_
            refine kgd hb25 (v_mul) ?_
            refine kgd hb25 (v_fb fa_24_1) ?_
            refine kgd hb25 (v_ldb Tryd.isAgg3) ?_
            refine kgd hb25 (v_mul) ?_
            refine kgd hb25 (v_bd [(0, _), (1, _)] [_, _] Tryd.zeroValue24 Tryd.runUnderlying24 pl_24) ?_
            obtain ⟨v27, hv26, h⟩ := e_bind h
            refine kgk hb25 (n_call Tryd.call16 (w_impl_FracLess hv26) ?_)
            rintro _ _ ⟨rfl, rfl⟩
            refine kgd hb25 (v_not) ?_
            refine kd (v_pt hb25) ?_
            refine kd (v_mv) ?_
            refine kops_split 47 rfl (fun hb29 => ?_) (fun hb29 => ?_)
            ·
              replace h := e_t h hb29
              obtain ⟨v31, hv30, h⟩ := e_bind h
              refine kgk hb29 (n_call Tryd.call18 (w_laws_alive hv30) ?_)
              rintro _ _ ⟨rfl, rfl⟩
              refine kd (v_pt hb29) ?_
              refine kd (v_as) ?_
              refine kops_nil ?_
              refine kn_then ?_
              refine kwp_ret ?_
              obtain rfl := e_some h
              refine r1 [] ?_
              exact ⟨rfl, rfl⟩
            ·
              replace h := e_f h hb29
              refine kskip hb29 ?_
              refine kd (v_pf hb29) ?_
              refine kd (v_as) ?_
              refine kops_nil ?_
              refine kn_then ?_
              refine kwp_ret ?_
              obtain rfl := e_some h
              refine r1 [] ?_
              exact ⟨rfl, rfl⟩
          ·
            replace h := e_f h hb25
            refine kskip hb25 ?_
            refine kskip hb25 ?_
            refine kskip hb25 ?_
            refine kskip hb25 ?_
            refine kskip hb25 ?_
            refine kskip hb25 ?_
            refine kskip hb25 ?_
            refine kskip hb25 ?_
            refine kskip hb25 ?_
            refine kskip hb25 ?_
            refine kd (v_pf hb25) ?_
            refine kd (v_mv) ?_
            refine kskip rfl ?_
            refine kd (v_pf rfl) ?_
            refine kd (v_as) ?_
            refine kops_nil ?_
            refine kn_then ?_
            refine kwp_ret ?_
            obtain rfl := e_some h
            refine r1 [] ?_
            exact ⟨rfl, rfl⟩
        ·
          replace h := e_f h hb21
          refine kskip hb21 ?_
          refine kskip hb21 ?_
          refine kskip hb21 ?_
          refine kskip hb21 ?_
          refine kd (v_pf hb21) ?_
          refine kd (v_mv) ?_
          refine kskip rfl ?_
          refine kskip rfl ?_
          refine kskip rfl ?_
          refine kskip rfl ?_
          refine kskip rfl ?_
          refine kskip rfl ?_
          refine kskip rfl ?_
          refine kskip rfl ?_
          refine kskip rfl ?_
          refine kskip rfl ?_
          refine kd (v_pf rfl) ?_
          refine kd (v_mv) ?_
          refine kskip rfl ?_
          refine kd (v_pf rfl) ?_
          refine kd (v_as) ?_
          refine kops_nil ?_
          refine kn_then ?_
          refine kwp_ret ?_
          obtain rfl := e_some h
          refine r1 [] ?_
          exact ⟨rfl, rfl⟩
      ·
        replace h := e_f h hb17
        refine kskip hb17 ?_
        refine kskip hb17 ?_
        refine kskip hb17 ?_
        refine kd (v_pf hb17) ?_
        refine kd (v_not) ?_
        refine kd (v_mv) ?_
        refine kgd rfl (v_ldB Tryd.isAgg24 Tryd.sizeOf24) ?_
        refine kgd rfl (v_ldB Tryd.isAgg24 Tryd.sizeOf24) ?_
        obtain ⟨v34, hv33, h⟩ := e_bind h
        refine kgk rfl (n_call Tryd.call16 (w_impl_FracLess hv33) ?_)
        rintro _ _ ⟨rfl, rfl⟩
        refine kgd rfl (v_not) ?_
        refine kd (v_pt rfl) ?_
        refine kd (v_mv) ?_
        refine kops_split 35 rfl (fun hb36 => ?_) (fun hb36 => ?_)
        ·
          replace h := e_t h hb36
          refine kgd hb36 (v_ldB Tryd.isAgg24 Tryd.sizeOf24) ?_
          refine kgd hb36 (v_fb fa_24_0) ?_
          refine kgd hb36 (v_ldb Tryd.isAgg3) ?_
          refine kgd hb36 (v_mul) ?_
          refine kgd hb36 (v_fb fa_24_1) ?_
          refine kgd hb36 (v_ldb Tryd.isAgg3) ?_
          refine kgd hb36 (v_mul) ?_
          refine kgd hb36 (v_bd [(0, _), (1, _)] [_, _] Tryd.zeroValue24 Tryd.runUnderlying24 pl_24) ?_
          obtain ⟨v38, hv37, h⟩ := e_bind h
          refine kgk hb36 (n_call Tryd.call16 (w_impl_FracLess hv37) ?_)
          rintro _ _ ⟨rfl, rfl⟩
          refine kgd hb36 (v_not) ?_
          refine kd (v_pt hb36) ?_
          refine kd (v_mv) ?_
          refine kops_split 47 rfl (fun hb40 => ?_) (fun hb40 => ?_)
          ·
            replace h := e_t h hb40
            obtain ⟨v42, hv41, h⟩ := e_bind h
            refine kgk hb40 (n_call Tryd.call18 (w_laws_alive hv41) ?_)
            rintro _ _ ⟨rfl, rfl⟩
            refine kd (v_pt hb40) ?_
            refine kd (v_as) ?_
            refine kops_nil ?_
            refine kn_then ?_
            refine kwp_ret ?_
            obtain rfl := e_some h
            refine r1 [] ?_
            exact ⟨rfl, rfl⟩
          ·
            replace h := e_f h hb40
            refine kskip hb40 ?_
            refine kd (v_pf hb40) ?_
            refine kd (v_as) ?_
            refine kops_nil ?_
            refine kn_then ?_
            refine kwp_ret ?_
            obtain rfl := e_some h
            refine r1 [] ?_
            exact ⟨rfl, rfl⟩
        ·
          replace h := e_f h hb36
          refine kskip hb36 ?_
          refine kskip hb36 ?_
          refine kskip hb36 ?_
          refine kskip hb36 ?_
          refine kskip hb36 ?_
          refine kskip hb36 ?_
          refine kskip hb36 ?_
          refine kskip hb36 ?_
          refine kskip hb36 ?_
          refine kskip hb36 ?_
          refine kd (v_pf hb36) ?_
          refine kd (v_mv) ?_
          refine kskip rfl ?_
          refine kd (v_pf rfl) ?_
          refine kd (v_as) ?_
          refine kops_nil ?_
          refine kn_then ?_
          refine kwp_ret ?_
          obtain rfl := e_some h
          refine r1 [] ?_
          exact ⟨rfl, rfl⟩

end Go.Proofs.YtpfijnklnljccaaDoor
