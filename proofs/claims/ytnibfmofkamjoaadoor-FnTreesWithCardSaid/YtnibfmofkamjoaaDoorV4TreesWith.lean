/- What the plain programs return, the functions of the program return; no condition. -/
import Derived.Test.YtnibfmofkamjoaaDoorQ4TreesWith
import Derived.Test.YtnibfmofkamjoaaDoorFa
import Derived.Test.YtnibfmofkamjoaaDoorVbg
import Derived.Test.YtnibfmofkamjoaaDoorVbt
import Derived.Test.YtnibfmofkamjoaaDoorVbn
import Derived.Test.YtnibfmofkamjoaaDoorKx
namespace Go.Proofs.YtnibfmofkamjoaaDoor
open Go
set_option linter.unusedVariables false
set_option linter.unusedSimpArgs false

set_option maxRecDepth 20000 in
theorem w_spec_DrawTreesWith (code0a : Option Addr) (code0n : Nat) (code0c : Nat) {code0 : List UInt8} {r : Survey × Int} (h : p_spec_DrawTreesWith code0 = some r) :
    Triple Tryd.prog 41 [.slice code0a code0n code0c] [⟨.slice code0a code0n code0c, 1, code0.map encB⟩] [] (fun v ch => ∃ (w01a : Option Addr) (w01c : Nat), v = .tuple #[.agg #[.int .i64 r.1.st, .slice w01a r.1.legs.length w01c], .int .i64 r.2] ∧ ch = [⟨.slice w01a r.1.legs.length w01c, 5, r.1.legs.map encLeg⟩]) := by
  refine triple_start 14 Tryd.func41 Tryd.ntmps41 rfl rfl (fun w0 => ?_)
  refine k_len (c := code0c) (fun hl1 => ?_)
  subst hl1
  unfold p_spec_DrawTreesWith at h
  refine kwp_seq ?_
  refine kwp_region ?_
  refine kops_nilchunk 5 (by decide) ?_
  refine kk (n_alloc (e := [.int .i64 0, .slice none 0 0]) 2 Tryd.zeroValue25 (fun p2_2 => ?_))
  refine kd (v_as) ?_
  refine kops_nil ?_
  refine kn_then ?_
  refine kwp_seq ?_
  refine kwp_region ?_
  refine kd (v_mv) ?_
  obtain ⟨v4, hv3, h⟩ := e_bind h
  refine kk (n_call Tryd.call68 (w_spec_l20Open code0a code0.length code0c hv3) ?_)
  rintro _ _ ⟨q5p, q50a, q50c, rfl, hvwq5, rfl⟩
  refine kd (v_as) ?_
  refine kops_nil ?_
  refine kn_then ?_
  refine kwp_seq ?_
  refine kwp_region ?_
  refine kd (v_mv) ?_
  obtain ⟨⟨v7, v8⟩, hv6, h⟩ := e_bind h
  refine kk (n_call Tryd.call69 (w_spec_l20Linked q5p q50a v4.b.length q50c hv6) ?_ (hv := (Views.cons (by repeat (first | exact mh | apply mt | apply mas | apply ms)) hvwq5 (Views.nil _))))
  rintro _ _ ⟨q91a, q91c, rfl, rfl⟩
  refine kops_nilchunk 5 (by decide) ?_
  refine kk (n_alloc (e := [.int .i64 0, .slice none 0 0]) 2 Tryd.zeroValue25 (fun p5_10 => ?_))
  refine kk (s_B (e' := [.int .i64 v7.st, .slice q91a v7.legs.length q91c]) Tryd.sizeOf25 ?_)
  refine kops_nil ?_
  refine kn_then ?_
  refine kwp_seq ?_
  obtain ⟨⟨v12, v13⟩, hv11, h⟩ := e_bind h
  refine kwp_tree (.quiet 0 (.quiet 1 (.quiet 2 (.one 3 (.one 4 (.quiet 5 .stop)))))) [] [⟨.pointer (some p5_10), 2, [[.int .i64 v7.st, .slice q91a v7.legs.length q91c]]⟩] drawMixed (by kernel_rfl) nopan (by (repeat (first | exact Sub.refl _ | exact Sub.nil _ | refine Sub.chunk (by repeat (first | exact Pick.here | apply Pick.there | apply Pick.seg)) (by rfl) ?_ | refine Sub.seg (by repeat (first | exact PickSeg.here | exact PickSeg.all | apply PickSeg.there | apply PickSeg.seg)) ?_ | exact Sub.seg0 (by repeat (first | exact PickSeg.here | exact PickSeg.all | apply PickSeg.there | apply PickSeg.seg)) | apply Sub.assoc))) ?_
  refine kt_d rfl rfl rfl (v_ldB Tryd.isAgg25 Tryd.sizeOf25) ?_
  refine kt_d rfl rfl rfl (v_mv) ?_
  refine kt_d rfl rfl rfl (v_ldB Tryd.isAgg25 Tryd.sizeOf25) ?_
  refine kt_one ?_
  refine kl_k rfl rfl (n_call Tryd.call89 (w_spec_l20Index q5p q50a v4.b.length q50c q91a v7.legs.length q91c hv11) ?_ (hv := (Views.cons (by repeat (first | exact mh | apply mt | apply mas | apply ms)) hvwq5 (Views.cons (by repeat (first | exact mh | apply mt | apply mas | apply ms)) (View.refl _) (Views.nil _)))))
  rintro _ _ ⟨rfl, rfl⟩
  refine ⟨.inl (by (repeat (first | exact Sub.refl _ | exact Sub.nil _ | refine Sub.chunk (by repeat (first | exact Pick.here | apply Pick.there | apply Pick.seg)) (by rfl) ?_ | refine Sub.seg (by repeat (first | exact PickSeg.here | exact PickSeg.all | apply PickSeg.there | apply PickSeg.seg)) ?_ | exact Sub.seg0 (by repeat (first | exact PickSeg.here | exact PickSeg.all | apply PickSeg.there | apply PickSeg.seg)) | apply Sub.assoc))), ?_⟩
  refine kt_one ?_
  refine kl_k rfl rfl (s_B (e' := [.int .i64 v7.st, .slice q91a v7.legs.length q91c]) Tryd.sizeOf25 ?_)
  refine ⟨.inl (by (repeat (first | exact Sub.refl _ | exact Sub.nil _ | refine Sub.chunk (by repeat (first | exact Pick.here | apply Pick.there | apply Pick.seg)) (by rfl) ?_ | refine Sub.seg (by repeat (first | exact PickSeg.here | exact PickSeg.all | apply PickSeg.there | apply PickSeg.seg)) ?_ | exact Sub.seg0 (by repeat (first | exact PickSeg.here | exact PickSeg.all | apply PickSeg.there | apply PickSeg.seg)) | apply Sub.assoc))), ?_⟩
  refine kt_d rfl rfl rfl (v_as) ?_
  refine kt_nil ?_
  refine kn_then ?_
  refine kwp_ret ?_
  obtain rfl := e_some h
  refine rc1 Tryd.isAgg25 Tryd.sizeOf25 [⟨.slice q91a v7.legs.length q91c, 5, v7.legs.map encLeg⟩] ?_
  exact ⟨q91a, q91c, rfl, rfl⟩

set_option maxRecDepth 20000 in
set_option maxHeartbeats 2000000 in
theorem w_laws_FnTreesWith (code0a : Option Addr) (code0n : Nat) (code0c : Nat) {code0 : List UInt8} {r : Bool} (h : p_laws_FnTreesWith code0 = some r) :
    Triple Tryd.prog 7 [.slice code0a code0n code0c] [⟨.slice code0a code0n code0c, 1, code0.map encB⟩, tabC] [] (fun v ch => v = .bool r ∧ ch = []) := by
  refine triple_start 77 Tryd.func7 Tryd.ntmps7 rfl rfl (fun w0 => ?_)
  refine k_len (c := code0c) (fun hl1 => ?_)
  subst hl1
  unfold p_laws_FnTreesWith at h
  refine kwp_seq ?_
  refine kwp_region ?_
  refine kd (v_as) ?_
  refine kops_nil ?_
  refine kn_then ?_
  refine kwp_seq ?_
  refine kwp_seq ?_
  refine kwp_region ?_
  refine kd (v_mv) ?_
  refine kd (v_len Tryd.runUnderlying22) ?_
  refine kd (v_cmp) ?_
  refine kops_nil ?_
  refine kn_then ?_
  refine kwp_cond rfl (fun hc2 => ?_) (fun hc2 => ?_)
  ·
    replace h := e_t h hc2
    refine kwp_seq ?_
    refine kwp_region ?_
    refine kd (v_as) ?_
    refine kops_nil ?_
    refine kn_then ?_
    refine kwp_ret ?_
    refine kr_then ?_
    obtain rfl := e_some h
    refine r1 [] ?_
    exact ⟨rfl, rfl⟩
  ·
    replace h := e_f h hc2
    refine kwp_skip ?_
    refine kn_then ?_
    refine kwp_seq ?_
    refine kwp_region ?_
    refine kd (v_mv) ?_
    obtain ⟨⟨v4, v5⟩, hv3, h⟩ := e_bind h
    refine kk (n_call Tryd.call41 (w_spec_DrawTreesWith code0a code0.length code0c hv3) ?_)
    rintro _ _ ⟨q61a, q61c, rfl, rfl⟩
    refine kd (v_mv) ?_
    refine kd (v_ex) ?_
    refine kd (v_ex) ?_
    refine kops_nilchunk 5 (by decide) ?_
    refine kk (n_alloc (e := [.int .i64 0, .slice none 0 0]) 2 Tryd.zeroValue25 (fun p3_8 => ?_))
    refine kk (s_B (e' := [.int .i64 v4.st, .slice q61a v4.legs.length q61c]) Tryd.sizeOf25 ?_)
    refine kd (v_as) ?_
    refine kops_nil ?_
    refine kn_then ?_
    refine kwp_seq ?_
    refine kwp_region ?_
    refine kd (v_ldB Tryd.isAgg25 Tryd.sizeOf25) ?_
    refine kd (v_mv) ?_
    obtain ⟨v10, hv9, h⟩ := e_bind h
    refine kk (n_call Tryd.call42 (w_impl_TreesWith q61a v4.legs.length q61c hv9) ?_)
    rintro _ _ ⟨rfl, rfl⟩
    refine kd (v_as) ?_
    refine kops_nil ?_
    refine kn_then ?_
    refine kwp_seq ?_
    refine kwp_seq ?_
    refine kwp_region ?_
    refine kd (v_mv) ?_
    refine kd (v_ldB Tryd.isAgg25 Tryd.sizeOf25) ?_
    refine kd (v_mv) ?_
    obtain ⟨v13, hv12, h⟩ := e_bind h
    refine kk (n_call Tryd.call43 (w_spec_TreesWith q61a v4.legs.length q61c hv12) ?_)
    rintro _ _ ⟨rfl, rfl⟩
    refine kd (v_cmp) ?_
    refine kops_nil ?_
    refine kn_then ?_
    refine kwp_cond rfl (fun hc15 => ?_) (fun hc15 => ?_)
    ·
      replace h := e_t h hc15
      refine kwp_seq ?_
      refine kwp_region ?_
      refine kd (v_as) ?_
      refine kops_nil ?_
      refine kn_then ?_
      refine kwp_ret ?_
      refine kr_then ?_
      obtain rfl := e_some h
      refine r1 [] ?_
      exact ⟨rfl, rfl⟩
    ·
      replace h := e_f h hc15
      refine kwp_skip ?_
      refine kn_then ?_
      refine kwp_seq ?_
      refine kwp_seq ?_
      refine kwp_region ?_
      refine kd (v_mv) ?_
      refine kd (v_cmp) ?_
      refine kops_nil ?_
      refine kn_then ?_
      refine kwp_cond rfl (fun hc16 => ?_) (fun hc16 => ?_)
      ·
        replace h := e_t h hc16
        refine kwp_seq ?_
        refine kwp_region ?_
        refine kd (v_mv) ?_
        refine kd (v_cmp) ?_
        refine kd (v_mv) ?_
        refine kops_split 30 rfl (fun hb17 => ?_) (fun hb17 => ?_)
        ·
          replace h := e_t h hb17
          obtain ⟨v19, hv18, h⟩ := e_bind h
          refine kgk hb17 (n_call Tryd.call19 (w_laws_alive hv18) ?_)
          rintro _ _ ⟨rfl, rfl⟩
          refine kd (v_pt hb17) ?_
          refine kd (v_as) ?_
          refine kops_nil ?_
          refine kn_then ?_
          refine kwp_ret ?_
          refine kr_then ?_
          obtain rfl := e_some h
          refine r1 [] ?_
          exact ⟨rfl, rfl⟩
        ·
          replace h := e_f h hb17
          refine kskip hb17 ?_
          refine kd (v_pf hb17) ?_
          refine kd (v_as) ?_
          refine kops_nil ?_
          refine kn_then ?_
          refine kwp_ret ?_
          refine kr_then ?_
          obtain rfl := e_some h
          refine r1 [] ?_
          exact ⟨rfl, rfl⟩
      ·
        replace h := e_f h hc16
        refine kwp_skip ?_
        refine kn_then ?_
        refine kwp_seq ?_
        refine kwp_nil 5 (by decide) ?_
        obtain ⟨j22, j23, ej22, ej23, oj22, oj23, h⟩ := e_cut h
        obtain ⟨hz24, h⟩ := e_need h
        obtain ⟨j27, j28, ej27, ej28, oj27, oj28, h⟩ := e_cut h
        obtain ⟨hz29, h⟩ := e_need h
        refine kwp_cutS (inv := [(3, .pointer (some p3_8)), (5, .int .i64 v10)]) (fun (y : Option Addr × Nat × Addr) => [(6, .pointer (some y.2.2))]) (fun (y : Option Addr × Nat × Addr) => [⟨.pointer (some p3_8), 2, [[.int .i64 v4.st, .slice q61a v4.legs.length q61c]]⟩, ⟨.slice q61a v4.legs.length q61c, 5, v4.legs.map encLeg⟩, ⟨.pointer (some y.2.2), 2, [[.int .i64 v4.st, .slice y.1 (((([] : List Leg) ++ ((v4.legs.drop j22).take (j23 - j22))) ++ ((v4.legs.drop j27).take (j28 - j27))).length) y.2.1]]⟩, ⟨.slice y.1 (((([] : List Leg) ++ ((v4.legs.drop j22).take (j23 - j22))) ++ ((v4.legs.drop j27).take (j28 - j27))).length) y.2.1, 5, ((([] : List Leg) ++ ((v4.legs.drop j22).take (j23 - j22))) ++ ((v4.legs.drop j27).take (j28 - j27))).map encLeg⟩]) (fun (y : Option Addr × Nat × Addr) => True) ?_ ?_
        ·
          refine kwp_tree (.quiet 0 (.quiet 1 (.quiet 3 (.quiet 4 (.quiet 5 (.quiet 6 (.quiet 8 (.quiet 9 (.quiet 10 (.quiet 11 (.quiet 12 (.two 2 (.two 7 (.two 13 (.quiet 14 (.one 15 (.one 16 .stop))) 15 (.one 13 (.quiet 14 (.one 16 .stop)))) 15 (.one 7 (.one 13 (.quiet 14 (.one 16 .stop))))) 15 (.one 2 (.one 7 (.one 13 (.quiet 14 (.one 16 .stop))))))))))))))))) [] [⟨.slice q61a v4.legs.length q61c, 5, v4.legs.map encLeg⟩, ⟨.pointer (some p3_8), 2, [[.int .i64 v4.st, .slice q61a v4.legs.length q61c]]⟩] drawMixed (by kernel_rfl) nopan (by (repeat (first | exact Sub.refl _ | exact Sub.nil _ | refine Sub.chunk (by repeat (first | exact Pick.here | apply Pick.there | apply Pick.seg)) (by rfl) ?_ | refine Sub.seg (by repeat (first | exact PickSeg.here | exact PickSeg.all | apply PickSeg.there | apply PickSeg.seg)) ?_ | exact Sub.seg0 (by repeat (first | exact PickSeg.here | exact PickSeg.all | apply PickSeg.there | apply PickSeg.seg)) | apply Sub.assoc))) ?_
          refine kt_d rfl rfl rfl (v_fb fa_25_0) ?_
          refine kt_d rfl rfl rfl (v_ldb Tryd.isAgg3) ?_
          refine kt_d rfl rfl rfl (v_fb fa_25_1) ?_
          refine kt_d rfl rfl rfl (v_ldb Tryd.isAgg23) ?_
          refine kt_d rfl rfl rfl (v_mv) ?_
          refine kt_d rfl rfl rfl (v_sl (l := j22) (h := j23) oj22 oj23 Tryd.runUnderlying23 Tryd.sizeOf48 (hlo := by show _ = 0; omega) (hhi := by exact ⟨_, _, rfl, ej23⟩)) ?_
          refine kt_d rfl rfl rfl (v_fb fa_25_1) ?_
          refine kt_d rfl rfl rfl (v_ldb Tryd.isAgg23) ?_
          refine kt_d rfl rfl rfl (v_mv) ?_
          refine kt_d rfl rfl rfl (v_add) ?_
          refine kt_d rfl rfl rfl (v_sl (l := j27) (h := j28) oj27 oj28 Tryd.runUnderlying23 Tryd.sizeOf48 (hlo := by exact ⟨_, _, rfl, ej27⟩) (hhi := by show _ = _; omega)) ?_
          refine kt_two ?_ ?_
          ·
            refine kl_k rfl rfl (n_lit (enc := encLeg) [] ([] : List Leg) Tryd.runUnderlying23 Tryd.sizeOf48 Tryd.zeroValue48 (fun a21 => ?_))
            refine ⟨.inl (by (repeat (first | exact Sub.refl _ | exact Sub.nil _ | refine Sub.chunk (by repeat (first | exact Pick.here | apply Pick.there | apply Pick.seg)) (by rfl) ?_ | refine Sub.seg (by repeat (first | exact PickSeg.here | exact PickSeg.all | apply PickSeg.there | apply PickSeg.seg)) ?_ | exact Sub.seg0 (by repeat (first | exact PickSeg.here | exact PickSeg.all | apply PickSeg.there | apply PickSeg.seg)) | apply Sub.assoc))), ?_⟩
            refine kt_two ?_ ?_
            ·
              refine kl_k rfl rfl (n_appP (enc := encLeg) (L := v4.legs) oj22 oj23 ok_encLeg hz24 Tryd.underlying23 Tryd.type48 (by decide) (fun a25 c26 => ?_))
              refine ⟨.inl (by (repeat (first | exact Sub.refl _ | exact Sub.nil _ | refine Sub.chunk (by repeat (first | exact Pick.here | apply Pick.there | apply Pick.seg)) (by rfl) ?_ | refine Sub.seg (by repeat (first | exact PickSeg.here | exact PickSeg.all | apply PickSeg.there | apply PickSeg.seg)) ?_ | exact Sub.seg0 (by repeat (first | exact PickSeg.here | exact PickSeg.all | apply PickSeg.there | apply PickSeg.seg)) | apply Sub.assoc))), ?_⟩
              refine kt_two ?_ ?_
              ·
                refine kl_k rfl rfl (n_appP (enc := encLeg) (L := v4.legs) oj27 oj28 ok_encLeg hz29 Tryd.underlying23 Tryd.type48 (by decide) (fun a30 c31 => ?_))
                refine ⟨.inl (by (repeat (first | exact Sub.refl _ | exact Sub.nil _ | refine Sub.chunk (by repeat (first | exact Pick.here | apply Pick.there | apply Pick.seg)) (by rfl) ?_ | refine Sub.seg (by repeat (first | exact PickSeg.here | exact PickSeg.all | apply PickSeg.there | apply PickSeg.seg)) ?_ | exact Sub.seg0 (by repeat (first | exact PickSeg.here | exact PickSeg.all | apply PickSeg.there | apply PickSeg.seg)) | apply Sub.assoc))), ?_⟩
                refine kt_d rfl rfl rfl (v_bd [(0, _), (1, _)] [_, _] Tryd.zeroValue25 Tryd.runUnderlying25 pl_25) ?_
                refine kt_one ?_
                refine kl_k rfl rfl (n_alloc (e := [.int .i64 0, .slice none 0 0]) 2 Tryd.zeroValue25 (fun p6_32 => ?_))
                refine ⟨.inl (by (repeat (first | exact Sub.refl _ | exact Sub.nil _ | refine Sub.chunk (by repeat (first | exact Pick.here | apply Pick.there | apply Pick.seg)) (by rfl) ?_ | refine Sub.seg (by repeat (first | exact PickSeg.here | exact PickSeg.all | apply PickSeg.there | apply PickSeg.seg)) ?_ | exact Sub.seg0 (by repeat (first | exact PickSeg.here | exact PickSeg.all | apply PickSeg.there | apply PickSeg.seg)) | apply Sub.assoc))), ?_⟩
                refine kt_one ?_
                refine kl_k rfl rfl (s_B (e' := [.int .i64 v4.st, .slice a30 (((([] : List Leg) ++ ((v4.legs.drop j22).take (j23 - j22))) ++ ((v4.legs.drop j27).take (j28 - j27))).length) c31]) Tryd.sizeOf25 ?_)
                refine ⟨.inl (by (repeat (first | exact Sub.refl _ | exact Sub.nil _ | refine Sub.chunk (by repeat (first | exact Pick.here | apply Pick.there | apply Pick.seg)) (by rfl) ?_ | refine Sub.seg (by repeat (first | exact PickSeg.here | exact PickSeg.all | apply PickSeg.there | apply PickSeg.seg)) ?_ | exact Sub.seg0 (by repeat (first | exact PickSeg.here | exact PickSeg.all | apply PickSeg.there | apply PickSeg.seg)) | apply Sub.assoc))), ?_⟩
                refine kt_nil ?_
                refine kn_then ?_
                exact ⟨(a30, c31, p6_32), hd_mk trivial⟩
              ·
                refine kl_k rfl rfl (n_alloc (e := [.int .i64 0, .slice none 0 0]) 2 Tryd.zeroValue25 (fun p6_32 => ?_))
                refine ⟨.inl (by (repeat (first | exact Sub.refl _ | exact Sub.nil _ | refine Sub.chunk (by repeat (first | exact Pick.here | apply Pick.there | apply Pick.seg)) (by rfl) ?_ | refine Sub.seg (by repeat (first | exact PickSeg.here | exact PickSeg.all | apply PickSeg.there | apply PickSeg.seg)) ?_ | exact Sub.seg0 (by repeat (first | exact PickSeg.here | exact PickSeg.all | apply PickSeg.there | apply PickSeg.seg)) | apply Sub.assoc))), ?_⟩
                refine kt_one ?_
                refine kl_k rfl rfl (n_appP (enc := encLeg) (L := v4.legs) oj27 oj28 ok_encLeg hz29 Tryd.underlying23 Tryd.type48 (by decide) (fun a30 c31 => ?_))
                refine ⟨.inl (by (repeat (first | exact Sub.refl _ | exact Sub.nil _ | refine Sub.chunk (by repeat (first | exact Pick.here | apply Pick.there | apply Pick.seg)) (by rfl) ?_ | refine Sub.seg (by repeat (first | exact PickSeg.here | exact PickSeg.all | apply PickSeg.there | apply PickSeg.seg)) ?_ | exact Sub.seg0 (by repeat (first | exact PickSeg.here | exact PickSeg.all | apply PickSeg.there | apply PickSeg.seg)) | apply Sub.assoc))), ?_⟩
                refine kt_d rfl rfl rfl (v_bd [(0, _), (1, _)] [_, _] Tryd.zeroValue25 Tryd.runUnderlying25 pl_25) ?_
                refine kt_one ?_
                refine kl_k rfl rfl (s_B (e' := [.int .i64 v4.st, .slice a30 (((([] : List Leg) ++ ((v4.legs.drop j22).take (j23 - j22))) ++ ((v4.legs.drop j27).take (j28 - j27))).length) c31]) Tryd.sizeOf25 ?_)
                refine ⟨.inl (by (repeat (first | exact Sub.refl _ | exact Sub.nil _ | refine Sub.chunk (by repeat (first | exact Pick.here | apply Pick.there | apply Pick.seg)) (by rfl) ?_ | refine Sub.seg (by repeat (first | exact PickSeg.here | exact PickSeg.all | apply PickSeg.there | apply PickSeg.seg)) ?_ | exact Sub.seg0 (by repeat (first | exact PickSeg.here | exact PickSeg.all | apply PickSeg.there | apply PickSeg.seg)) | apply Sub.assoc))), ?_⟩
                refine kt_nil ?_
                refine kn_then ?_
                exact ⟨(a30, c31, p6_32), hd_mk trivial⟩
            ·
              refine kl_k rfl rfl (n_alloc (e := [.int .i64 0, .slice none 0 0]) 2 Tryd.zeroValue25 (fun p6_32 => ?_))
              refine ⟨.inl (by (repeat (first | exact Sub.refl _ | exact Sub.nil _ | refine Sub.chunk (by repeat (first | exact Pick.here | apply Pick.there | apply Pick.seg)) (by rfl) ?_ | refine Sub.seg (by repeat (first | exact PickSeg.here | exact PickSeg.all | apply PickSeg.there | apply PickSeg.seg)) ?_ | exact Sub.seg0 (by repeat (first | exact PickSeg.here | exact PickSeg.all | apply PickSeg.there | apply PickSeg.seg)) | apply Sub.assoc))), ?_⟩
              refine kt_one ?_
              refine kl_k rfl rfl (n_appP (enc := encLeg) (L := v4.legs) oj22 oj23 ok_encLeg hz24 Tryd.underlying23 Tryd.type48 (by decide) (fun a25 c26 => ?_))
              refine ⟨.inl (by (repeat (first | exact Sub.refl _ | exact Sub.nil _ | refine Sub.chunk (by repeat (first | exact Pick.here | apply Pick.there | apply Pick.seg)) (by rfl) ?_ | refine Sub.seg (by repeat (first | exact PickSeg.here | exact PickSeg.all | apply PickSeg.there | apply PickSeg.seg)) ?_ | exact Sub.seg0 (by repeat (first | exact PickSeg.here | exact PickSeg.all | apply PickSeg.there | apply PickSeg.seg)) | apply Sub.assoc))), ?_⟩
              refine kt_one ?_
              refine kl_k rfl rfl (n_appP (enc := encLeg) (L := v4.legs) oj27 oj28 ok_encLeg hz29 Tryd.underlying23 Tryd.type48 (by decide) (fun a30 c31 => ?_))
              refine ⟨.inl (by (repeat (first | exact Sub.refl _ | exact Sub.nil _ | refine Sub.chunk (by repeat (first | exact Pick.here | apply Pick.there | apply Pick.seg)) (by rfl) ?_ | refine Sub.seg (by repeat (first | exact PickSeg.here | exact PickSeg.all | apply PickSeg.there | apply PickSeg.seg)) ?_ | exact Sub.seg0 (by repeat (first | exact PickSeg.here | exact PickSeg.all | apply PickSeg.there | apply PickSeg.seg)) | apply Sub.assoc))), ?_⟩
              refine kt_d rfl rfl rfl (v_bd [(0, _), (1, _)] [_, _] Tryd.zeroValue25 Tryd.runUnderlying25 pl_25) ?_
              refine kt_one ?_
              refine kl_k rfl rfl (s_B (e' := [.int .i64 v4.st, .slice a30 (((([] : List Leg) ++ ((v4.legs.drop j22).take (j23 - j22))) ++ ((v4.legs.drop j27).take (j28 - j27))).length) c31]) Tryd.sizeOf25 ?_)
              refine ⟨.inl (by (repeat (first | exact Sub.refl _ | exact Sub.nil _ | refine Sub.chunk (by repeat (first | exact Pick.here | apply Pick.there | apply Pick.seg)) (by rfl) ?_ | refine Sub.seg (by repeat (first | exact PickSeg.here | exact PickSeg.all | apply PickSeg.there | apply PickSeg.seg)) ?_ | exact Sub.seg0 (by repeat (first | exact PickSeg.here | exact PickSeg.all | apply PickSeg.there | apply PickSeg.seg)) | apply Sub.assoc))), ?_⟩
              refine kt_nil ?_
              refine kn_then ?_
              exact ⟨(a30, c31, p6_32), hd_mk trivial⟩
          ·
            refine kl_k rfl rfl (n_alloc (e := [.int .i64 0, .slice none 0 0]) 2 Tryd.zeroValue25 (fun p6_32 => ?_))
            refine ⟨.inl (by (repeat (first | exact Sub.refl _ | exact Sub.nil _ | refine Sub.chunk (by repeat (first | exact Pick.here | apply Pick.there | apply Pick.seg)) (by rfl) ?_ | refine Sub.seg (by repeat (first | exact PickSeg.here | exact PickSeg.all | apply PickSeg.there | apply PickSeg.seg)) ?_ | exact Sub.seg0 (by repeat (first | exact PickSeg.here | exact PickSeg.all | apply PickSeg.there | apply PickSeg.seg)) | apply Sub.assoc))), ?_⟩
            refine kt_one ?_
            refine kl_k rfl rfl (n_lit (enc := encLeg) [] ([] : List Leg) Tryd.runUnderlying23 Tryd.sizeOf48 Tryd.zeroValue48 (fun a21 => ?_))
            refine ⟨.inl (by (repeat (first | exact Sub.refl _ | exact Sub.nil _ | refine Sub.chunk (by repeat (first | exact Pick.here | apply Pick.there | apply Pick.seg)) (by rfl) ?_ | refine Sub.seg (by repeat (first | exact PickSeg.here | exact PickSeg.all | apply PickSeg.there | apply PickSeg.seg)) ?_ | exact Sub.seg0 (by repeat (first | exact PickSeg.here | exact PickSeg.all | apply PickSeg.there | apply PickSeg.seg)) | apply Sub.assoc))), ?_⟩
            refine kt_one ?_
            refine kl_k rfl rfl (n_appP (enc := encLeg) (L := v4.legs) oj22 oj23 ok_encLeg hz24 Tryd.underlying23 Tryd.type48 (by decide) (fun a25 c26 => ?_))
            refine ⟨.inl (by (repeat (first | exact Sub.refl _ | exact Sub.nil _ | refine Sub.chunk (by repeat (first | exact Pick.here | apply Pick.there | apply Pick.seg)) (by rfl) ?_ | refine Sub.seg (by repeat (first | exact PickSeg.here | exact PickSeg.all | apply PickSeg.there | apply PickSeg.seg)) ?_ | exact Sub.seg0 (by repeat (first | exact PickSeg.here | exact PickSeg.all | apply PickSeg.there | apply PickSeg.seg)) | apply Sub.assoc))), ?_⟩
            refine kt_one ?_
            refine kl_k rfl rfl (n_appP (enc := encLeg) (L := v4.legs) oj27 oj28 ok_encLeg hz29 Tryd.underlying23 Tryd.type48 (by decide) (fun a30 c31 => ?_))
            refine ⟨.inl (by (repeat (first | exact Sub.refl _ | exact Sub.nil _ | refine Sub.chunk (by repeat (first | exact Pick.here | apply Pick.there | apply Pick.seg)) (by rfl) ?_ | refine Sub.seg (by repeat (first | exact PickSeg.here | exact PickSeg.all | apply PickSeg.there | apply PickSeg.seg)) ?_ | exact Sub.seg0 (by repeat (first | exact PickSeg.here | exact PickSeg.all | apply PickSeg.there | apply PickSeg.seg)) | apply Sub.assoc))), ?_⟩
            refine kt_d rfl rfl rfl (v_bd [(0, _), (1, _)] [_, _] Tryd.zeroValue25 Tryd.runUnderlying25 pl_25) ?_
            refine kt_one ?_
            refine kl_k rfl rfl (s_B (e' := [.int .i64 v4.st, .slice a30 (((([] : List Leg) ++ ((v4.legs.drop j22).take (j23 - j22))) ++ ((v4.legs.drop j27).take (j28 - j27))).length) c31]) Tryd.sizeOf25 ?_)
            refine ⟨.inl (by (repeat (first | exact Sub.refl _ | exact Sub.nil _ | refine Sub.chunk (by repeat (first | exact Pick.here | apply Pick.there | apply Pick.seg)) (by rfl) ?_ | refine Sub.seg (by repeat (first | exact PickSeg.here | exact PickSeg.all | apply PickSeg.there | apply PickSeg.seg)) ?_ | exact Sub.seg0 (by repeat (first | exact PickSeg.here | exact PickSeg.all | apply PickSeg.there | apply PickSeg.seg)) | apply Sub.assoc))), ?_⟩
            refine kt_nil ?_
            refine kn_then ?_
            exact ⟨(a30, c31, p6_32), hd_mk trivial⟩
        · intro y33 _
          obtain ⟨a30, c31, p6_32⟩ := y33
          refine kn_then ?_
          refine kwp_seq ?_
          refine kwp_region ?_
          refine kd (v_as) ?_
          refine kops_nil ?_
          refine kn_then ?_
          refine kwp_seq ?_
          refine kwp_seq ?_
          refine kwp_region ?_
          refine kd (v_as) ?_
          refine kops_nil ?_
          refine kn_then ?_
          refine kwp_cutE (inv := [(3, .pointer (some p3_8)), (5, .int .i64 v10), (6, .pointer (some p6_32))]) (fun (z : Int) (y : Unit) => [(7, .int .i64 z)]) (fun (z : Int) (y : Unit) => [⟨.pointer (some p3_8), 2, [[.int .i64 v4.st, .slice q61a v4.legs.length q61c]]⟩, ⟨.slice q61a v4.legs.length q61c, 5, v4.legs.map encLeg⟩, ⟨.pointer (some p6_32), 2, [[.int .i64 v4.st, .slice a30 (((([] : List Leg) ++ ((v4.legs.drop j22).take (j23 - j22))) ++ ((v4.legs.drop j27).take (j28 - j27))).length) c31]]⟩, ⟨.slice a30 (((([] : List Leg) ++ ((v4.legs.drop j22).take (j23 - j22))) ++ ((v4.legs.drop j27).take (j28 - j27))).length) c31, 5, ((([] : List Leg) ++ ((v4.legs.drop j22).take (j23 - j22))) ++ ((v4.legs.drop j27).take (j28 - j27))).map encLeg⟩]) (fun _ _ => True) h ?_ ?_
          · intro t37 h35
            refine kwp_block ?_
            refine kwp_loopE (inv := [(3, .pointer (some p3_8)), (5, .int .i64 v10), (6, .pointer (some p6_32))]) (fun (z : Int × Int) (y : Unit) => [(7, .int .i64 z.1), (8, .int .i64 z.2)]) (fun (z : Int × Int) (y : Unit) => [⟨.pointer (some p3_8), 2, [[.int .i64 v4.st, .slice q61a v4.legs.length q61c]]⟩, ⟨.slice q61a v4.legs.length q61c, 5, v4.legs.map encLeg⟩, ⟨.pointer (some p6_32), 2, [[.int .i64 v4.st, .slice a30 (((([] : List Leg) ++ ((v4.legs.drop j22).take (j23 - j22))) ++ ((v4.legs.drop j27).take (j28 - j27))).length) c31]]⟩, ⟨.slice a30 (((([] : List Leg) ++ ((v4.legs.drop j22).take (j23 - j22))) ++ ((v4.legs.drop j27).take (j28 - j27))).length) c31, 5, ((([] : List Leg) ++ ((v4.legs.drop j22).take (j23 - j22))) ++ ((v4.legs.drop j27).take (j28 - j27))).map encLeg⟩]) (fun _ _ => True) h35 ⟨(), hd_mk trivial⟩ ?_
            intro z42 y43 b40 _ h41
            obtain ⟨sum38, k39⟩ := z42
            unfold p_laws_FnTreesWith_L0 at h41
            refine kwp_seq ?_
            refine kwp_seq ?_
            refine kwp_region ?_
            refine kd (v_mv) ?_
            refine kd (v_fb fa_25_1) ?_
            refine kd (v_ldb Tryd.isAgg23) ?_
            refine kd (v_len Tryd.runUnderlying23) ?_
            refine kd (v_cmp) ?_
            refine kops_nil ?_
            refine kn_then ?_
            refine kwp_cond rfl (fun hc44 => ?_) (fun hc44 => ?_)
            ·
              replace h41 := e_t h41 hc44
              refine kwp_skip ?_
              refine kn_then ?_
              refine kwp_seq ?_
              refine kwp_block ?_
              refine kwp_region ?_
              refine kd (v_mv) ?_
              refine kd (v_ldB Tryd.isAgg25 Tryd.sizeOf25) ?_
              refine kd (v_mv) ?_
              obtain ⟨v46, hv45, h41⟩ := e_bind h41
              refine kk (n_call Tryd.call42 (w_impl_TreesWith q61a v4.legs.length q61c hv45) ?_)
              rintro _ _ ⟨rfl, rfl⟩
              refine kd (v_add) ?_
              refine kd (v_as) ?_
              refine kops_nil ?_
              refine kn_block ?_
              refine kn_then ?_
              refine kwp_region ?_
              refine kd (v_mv) ?_
              refine kd (v_add) ?_
              refine kd (v_as) ?_
              refine kops_nil ?_
              refine kn_then ?_
              obtain rfl := e_some h41
              exact ⟨_, (), rfl, hd_mk trivial⟩
            ·
              replace h41 := e_f h41 hc44
              refine kwp_exit ?_
              refine ke_then ?_
              obtain rfl := e_some h41
              refine k_out ?_ rfl
              rintro rfl
              refine ke_block ?_
              exact ⟨(), hd_mk trivial⟩
          · intro sum34 y49 _ h50
            refine kn_then ?_
            refine kwp_seq ?_
            refine kwp_region ?_
            refine kd (v_ldB Tryd.isAgg25 Tryd.sizeOf25) ?_
            obtain ⟨v52, hv51, h50⟩ := e_bind h50
            refine kk (n_call Tryd.call33 (w_impl_TreesMany q61a v4.legs.length q61c hv51) ?_)
            rintro _ _ ⟨rfl, rfl⟩
            refine kd (v_as) ?_
            refine kops_nil ?_
            refine kn_then ?_
            refine kwp_seq ?_
            refine kwp_region ?_
            refine kd (v_mv) ?_
            refine kd (v_mv) ?_
            refine kd (v_ldB Tryd.isAgg25 Tryd.sizeOf25) ?_
            obtain ⟨v55, hv54, h50⟩ := e_bind h50
            refine kk (n_call Tryd.call33 (w_impl_TreesMany a30 (((([] : List Leg) ++ ((v4.legs.drop j22).take (j23 - j22))) ++ ((v4.legs.drop j27).take (j28 - j27))).length) c31 hv54) ?_)
            rintro _ _ ⟨rfl, rfl⟩
            refine kd (v_sub) ?_
            refine kd (v_cmp) ?_
            refine kd (v_mv) ?_
            refine kops_split 68 rfl (fun hb57 => ?_) (fun hb57 => ?_)
            ·
              replace h50 := e_t h50 hb57
              refine kgd hb57 (v_mv) ?_
              refine kgd hb57 (v_fb fa_25_0) ?_
              refine kgd hb57 (v_ldb Tryd.isAgg3) ?_
              refine kgd hb57 (v_sub) ?_
              refine kgd hb57 (v_mv) ?_
              refine kgd hb57 (v_mul) ?_
              refine kgd hb57 (v_cmp) ?_
              refine kd (v_pt hb57) ?_
              refine kd (v_as) ?_
              refine kops_nil ?_
              refine kn_then ?_
              refine kwp_ret ?_
              obtain rfl := e_some h50
              refine r1 [] ?_
              exact ⟨rfl, rfl⟩
            ·
              replace h50 := e_f h50 hb57
              refine kskip hb57 ?_
              refine kskip hb57 ?_
              refine kskip hb57 ?_
              refine kskip hb57 ?_
              refine kskip hb57 ?_
              refine kskip hb57 ?_
              refine kskip hb57 ?_
              refine kd (v_pf hb57) ?_
              refine kd (v_as) ?_
              refine kops_nil ?_
              refine kn_then ?_
              refine kwp_ret ?_
              obtain rfl := e_some h50
              refine r1 [] ?_
              exact ⟨rfl, rfl⟩

end Go.Proofs.YtnibfmofkamjoaaDoor
