/- What the plain programs return, the functions of the program return; no condition. -/
import Derived.Test.YtpfijnklnljccaaDoorQ3MineValid
import Derived.Test.YtpfijnklnljccaaDoorFa
import Derived.Test.YtpfijnklnljccaaDoorVdm
import Derived.Test.YtpfijnklnljccaaDoorVt
import Derived.Test.YtpfijnklnljccaaDoorVw
namespace Go.Proofs.YtpfijnklnljccaaDoor
open Go
set_option linter.unusedVariables false
set_option linter.unusedSimpArgs false

set_option maxRecDepth 20000 in
theorem w_spec_DrawMineValid (code0a : Option Addr) (code0n : Nat) (code0c : Nat) {code0 : List UInt8} {r : Mine} (h : p_spec_DrawMineValid code0 = some r) :
    Triple Tryd.prog 19 [.slice code0a code0n code0c] [⟨.slice code0a code0n code0c, 1, code0.map encB⟩] [] (fun v ch => ∃ (w01a : Option Addr) (w01c : Nat), v = .agg #[.int .i64 r.p, .slice w01a r.aw.length w01c] ∧ ch = [⟨.slice w01a r.aw.length w01c, 3, r.aw.map encAirway⟩]) := by
  refine triple_start 6 Tryd.func19 Tryd.ntmps19 rfl rfl (fun w0 => ?_)
  refine k_len (c := code0c) (fun hl1 => ?_)
  subst hl1
  unfold p_spec_DrawMineValid at h
  refine kwp_seq ?_
  refine kwp_region ?_
  refine kops_nilchunk 3 (by decide) ?_
  refine kk (n_alloc (e := [.int .i64 0, .slice none 0 0]) 2 Tryd.zeroValue32 (fun p2_2 => ?_))
  refine kops_nil ?_
  refine kn_then ?_
  refine kwp_seq ?_
  refine kwp_region ?_
  refine kd (v_mv) ?_
  obtain ⟨v4, hv3, h⟩ := e_bind h
  refine kk (n_call Tryd.call57 (w_spec_l20Open code0a code0.length code0c hv3) ?_)
  rintro _ _ ⟨q5p, q50a, q50c, rfl, hvwq5, rfl⟩
  obtain ⟨⟨v7, v8⟩, hv6, h⟩ := e_bind h
  refine kk (n_call Tryd.call62 (w_spec_l20Mine q5p q50a v4.b.length q50c hv6) ?_ (hv := (Views.cons (by repeat (first | exact mh | apply mt | apply mas | apply ms)) hvwq5 (Views.nil _))))
  rintro _ _ ⟨q91a, q91c, rfl, rfl⟩
  refine kk (s_B (e' := [.int .i64 v7.p, .slice q91a v7.aw.length q91c]) Tryd.sizeOf32 ?_)
  refine kops_nil ?_
  refine kn_then ?_
  refine kwp_ret ?_
  obtain rfl := e_some h
  refine rc Tryd.isAgg32 Tryd.sizeOf32 [⟨.slice q91a v7.aw.length q91c, 3, v7.aw.map encAirway⟩] ?_
  exact ⟨q91a, q91c, rfl, rfl⟩

set_option maxRecDepth 20000 in
set_option maxHeartbeats 2000000 in
theorem w_laws_FnMineValid (code0a : Option Addr) (code0n : Nat) (code0c : Nat) {code0 : List UInt8} {r : Bool} (h : p_laws_FnMineValid code0 = some r) :
    Triple Tryd.prog 4 [.slice code0a code0n code0c] [⟨.slice code0a code0n code0c, 1, code0.map encB⟩, tabC] [] (fun v ch => v = .bool r ∧ ch = []) := by
  refine triple_start 50 Tryd.func4 Tryd.ntmps4 rfl rfl (fun w0 => ?_)
  refine k_len (c := code0c) (fun hl1 => ?_)
  subst hl1
  unfold p_laws_FnMineValid at h
  refine kwp_seq ?_
  refine kwp_region ?_
  refine kd (v_as) ?_
  refine kops_nil ?_
  refine kn_then ?_
  refine kwp_seq ?_
  refine kwp_seq ?_
  refine kwp_region ?_
  refine kd (v_mv) ?_
  refine kd (v_len Tryd.runUnderlying22) ?_
  refine kd (v_cmp) ?_
  refine kops_nil ?_
  refine kn_then ?_
  refine kwp_cond rfl (fun hc2 => ?_) (fun hc2 => ?_)
  ·
    replace h := e_t h hc2
    refine kwp_seq ?_
    refine kwp_region ?_
    refine kd (v_as) ?_
    refine kops_nil ?_
    refine kn_then ?_
    refine kwp_ret ?_
    refine kr_then ?_
    obtain rfl := e_some h
    refine r1 [] ?_
    exact ⟨rfl, rfl⟩
  ·
    replace h := e_f h hc2
    refine kwp_skip ?_
    refine kn_then ?_
    refine kwp_seq ?_
    refine kwp_region ?_
    refine kd (v_mv) ?_
    obtain ⟨v4, hv3, h⟩ := e_bind h
    refine kk (n_call Tryd.call19 (w_spec_DrawMineValid code0a code0.length code0c hv3) ?_)
    rintro _ _ ⟨q51a, q51c, rfl, rfl⟩
    refine kops_nilchunk 3 (by decide) ?_
    refine kk (n_alloc (e := [.int .i64 0, .slice none 0 0]) 2 Tryd.zeroValue32 (fun p3_6 => ?_))
    refine kk (s_B (e' := [.int .i64 v4.p, .slice q51a v4.aw.length q51c]) Tryd.sizeOf32 ?_)
    refine kops_nil ?_
    refine kn_then ?_
    refine kwp_seq ?_
    refine kwp_region ?_
    refine kd (v_ldB Tryd.isAgg32 Tryd.sizeOf32) ?_
    obtain ⟨v8, hv7, h⟩ := e_bind h
    refine kk (n_call Tryd.call20 (w_impl_MineValid q51a v4.aw.length q51c hv7) ?_)
    rintro _ _ ⟨rfl, rfl⟩
    refine kd (v_as) ?_
    refine kops_nil ?_
    refine kn_then ?_
    refine kwp_seq ?_
    refine kwp_seq ?_
    refine kwp_region ?_
    refine kd (v_mv) ?_
    refine kd (v_ldB Tryd.isAgg32 Tryd.sizeOf32) ?_
    obtain ⟨v11, hv10, h⟩ := e_bind h
    refine kk (n_call Tryd.call21 (w_spec_MineValid q51a v4.aw.length q51c hv10) ?_)
    rintro _ _ ⟨rfl, rfl⟩
    refine kd (v_neb Tryd.underlying4) ?_
    refine kops_nil ?_
    refine kn_then ?_
    refine kwp_cond rfl (fun hc13 => ?_) (fun hc13 => ?_)
    ·
      replace h := e_t h hc13
      refine kwp_seq ?_
      refine kwp_region ?_
      refine kd (v_as) ?_
      refine kops_nil ?_
      refine kn_then ?_
      refine kwp_ret ?_
      refine kr_then ?_
      obtain rfl := e_some h
      refine r1 [] ?_
      exact ⟨rfl, rfl⟩
    ·
      replace h := e_f h hc13
      refine kwp_skip ?_
      refine kn_then ?_
      refine kwp_seq ?_
      refine sp (!v8) (fun hb14 => ?_) (fun hb14 => ?_)
      ·
        replace h := e_t h hb14
        obtain ⟨hz16, h⟩ := e_need h
        obtain ⟨hz20, h⟩ := e_need h
        obtain ⟨v24, hv23, h⟩ := e_bind h
        refine sp (!v24) (fun hb26 => ?_) (fun hb26 => ?_)
        ·
          replace h := e_t h hb26
          obtain ⟨v28, hv27, h⟩ := e_bind h
          refine kwp_cutS (inv := [(2, .bool v28)]) (fun (y : Unit) => []) (fun (y : Unit) => []) (fun (y : Unit) => True) ?_ ?_
          ·
            refine kwp_tree (.quiet 0 (.quiet 1 (.quiet 2 (.quiet 3 (.quiet 4 (.quiet 5 (.quiet 6 (.quiet 7 (.quiet 8 (.quiet 9 (.quiet 10 (.quiet 11 (.quiet 12 (.quiet 13 (.quiet 14 (.one 15 (.quiet 16 (.quiet 17 (.quiet 18 (.quiet 19 (.quiet 21 (.quiet 22 (.quiet 24 (.two 20 (.two 23 (.one 25 (.one 26 (.quiet 27 (.one 28 (.quiet 29 (.quiet 30 (.quiet 31 (.one 32 (.quiet 33 (.quiet 34 .stop)))))))))) 25 (.one 23 (.one 26 (.quiet 27 (.one 28 (.quiet 29 (.quiet 30 (.quiet 31 (.one 32 (.quiet 33 (.quiet 34 .stop))))))))))) 25 (.one 20 (.one 23 (.one 26 (.quiet 27 (.one 28 (.quiet 29 (.quiet 30 (.quiet 31 (.one 32 (.quiet 33 (.quiet 34 .stop))))))))))))))))))))))))))))))))))) [] [⟨.pointer (some p3_6), 2, [[.int .i64 v4.p, .slice q51a v4.aw.length q51c]]⟩] drawMixed (by kernel_rfl) nopan (by (repeat (first | exact Sub.refl _ | exact Sub.nil _ | refine Sub.chunk (by repeat (first | exact Pick.here | apply Pick.there | apply Pick.seg)) (by rfl) ?_ | refine Sub.seg (by repeat (first | exact PickSeg.here | exact PickSeg.all | apply PickSeg.there | apply PickSeg.seg)) ?_ | exact Sub.seg0 (by repeat (first | exact PickSeg.here | exact PickSeg.all | apply PickSeg.there | apply PickSeg.seg)) | apply Sub.assoc))) ?_
            refine kt_d rfl rfl rfl (v_mv) ?_
            refine kt_d rfl rfl rfl (v_not) ?_
            refine kt_d rfl rfl rfl (v_mv) ?_
            refine kt_skip rfl rfl rfl rfl hb14 ?_
            refine kt_skip rfl rfl rfl rfl hb14 ?_
            refine kt_skip rfl rfl rfl rfl hb14 ?_
            refine kt_skip rfl rfl rfl rfl hb14 ?_
            refine kt_d rfl rfl rfl (v_pt hb14) ?_
            refine kt_d rfl rfl rfl (v_mv) ?_
            refine kt_skip rfl rfl rfl rfl rfl ?_
            refine kt_skip rfl rfl rfl rfl rfl ?_
            refine kt_skip rfl rfl rfl rfl rfl ?_
            refine kt_skip rfl rfl rfl rfl rfl ?_
            refine kt_skip rfl rfl rfl rfl rfl ?_
            refine kt_skip rfl rfl rfl rfl rfl ?_
            refine kt_one ?_
            refine kl_skip rfl rfl rfl rfl rfl (by (repeat (first | exact Sub.refl _ | exact Sub.nil _ | refine Sub.chunk (by repeat (first | exact Pick.here | apply Pick.there | apply Pick.seg)) (by rfl) ?_ | refine Sub.seg (by repeat (first | exact PickSeg.here | exact PickSeg.all | apply PickSeg.there | apply PickSeg.seg)) ?_ | exact Sub.seg0 (by repeat (first | exact PickSeg.here | exact PickSeg.all | apply PickSeg.there | apply PickSeg.seg)) | apply Sub.assoc))) ?_
            refine kt_d rfl rfl rfl (v_pt rfl) ?_
            refine kt_d rfl rfl rfl (v_mv) ?_
            refine kt_gv rfl rfl rfl rfl rfl (v_fb fa_32_0) ?_
            refine kt_gv rfl rfl rfl rfl rfl (v_ldb Tryd.isAgg3) ?_
            refine kt_gv rfl rfl rfl rfl rfl (v_fb fa_32_1) ?_
            refine kt_gv rfl rfl rfl rfl rfl (v_ldb Tryd.isAgg30) ?_
            refine kt_gv rfl rfl rfl rfl rfl (v_bd [(2, _)] [.int .i64 0, .int .i64 0, _] Tryd.zeroValue36 Tryd.runUnderlying36 pl_36) ?_
            refine kt_two ?_ ?_
            ·
              refine kl_gk rfl rfl rfl rfl rfl (n_lit (enc := encAirway) [] ([] : List Airway) Tryd.runUnderlying30 Tryd.sizeOf36 Tryd.zeroValue36 (fun a15 => ?_))
              refine ⟨.inl (by (repeat (first | exact Sub.refl _ | exact Sub.nil _ | refine Sub.chunk (by repeat (first | exact Pick.here | apply Pick.there | apply Pick.seg)) (by rfl) ?_ | refine Sub.seg (by repeat (first | exact PickSeg.here | exact PickSeg.all | apply PickSeg.there | apply PickSeg.seg)) ?_ | exact Sub.seg0 (by repeat (first | exact PickSeg.here | exact PickSeg.all | apply PickSeg.there | apply PickSeg.seg)) | apply Sub.assoc))), ?_⟩
              refine kt_two ?_ ?_
              ·
                refine kl_gk rfl rfl rfl rfl rfl (n_app (enc := encAirway) ok_encAirway hz16 Tryd.underlying30 Tryd.type36 (by decide) (fun a17 c18 => ?_))
                refine ⟨.inl (by (repeat (first | exact Sub.refl _ | exact Sub.nil _ | refine Sub.chunk (by repeat (first | exact Pick.here | apply Pick.there | apply Pick.seg)) (by rfl) ?_ | refine Sub.seg (by repeat (first | exact PickSeg.here | exact PickSeg.all | apply PickSeg.there | apply PickSeg.seg)) ?_ | exact Sub.seg0 (by repeat (first | exact PickSeg.here | exact PickSeg.all | apply PickSeg.there | apply PickSeg.seg)) | apply Sub.assoc))), ?_⟩
                refine kt_one ?_
                refine kl_gk rfl rfl rfl rfl rfl (n_lit (enc := encAirway) [_] ([(⟨0, 0, 1⟩ : Airway)] : List Airway) Tryd.runUnderlying30 Tryd.sizeOf36 Tryd.zeroValue36 (fun a19 => ?_))
                refine ⟨.inl (by (repeat (first | exact Sub.refl _ | exact Sub.nil _ | refine Sub.chunk (by repeat (first | exact Pick.here | apply Pick.there | apply Pick.seg)) (by rfl) ?_ | refine Sub.seg (by repeat (first | exact PickSeg.here | exact PickSeg.all | apply PickSeg.there | apply PickSeg.seg)) ?_ | exact Sub.seg0 (by repeat (first | exact PickSeg.here | exact PickSeg.all | apply PickSeg.there | apply PickSeg.seg)) | apply Sub.assoc))), ?_⟩
                refine kt_one ?_
                refine kl_gk rfl rfl rfl rfl rfl (n_app (enc := encAirway) ok_encAirway hz20 Tryd.underlying30 Tryd.type36 (by decide) (fun a21 c22 => ?_))
                refine ⟨.inl (by (repeat (first | exact Sub.refl _ | exact Sub.nil _ | refine Sub.chunk (by repeat (first | exact Pick.here | apply Pick.there | apply Pick.seg)) (by rfl) ?_ | refine Sub.seg (by repeat (first | exact PickSeg.here | exact PickSeg.all | apply PickSeg.there | apply PickSeg.seg)) ?_ | exact Sub.seg0 (by repeat (first | exact PickSeg.here | exact PickSeg.all | apply PickSeg.there | apply PickSeg.seg)) | apply Sub.assoc))), ?_⟩
                refine kt_gv rfl rfl rfl rfl rfl (v_bd [(0, _), (1, _)] [_, _] Tryd.zeroValue32 Tryd.runUnderlying32 pl_32) ?_
                refine kt_one ?_
                refine kl_gk rfl rfl rfl rfl rfl (n_call Tryd.call20 (w_impl_MineValid a21 (((([] : List Airway) ++ v4.aw) ++ ([(⟨0, 0, 1⟩ : Airway)] : List Airway)).length) c22 hv23) ?_)
                rintro _ _ ⟨rfl, rfl⟩
                refine ⟨.inl (by (repeat (first | exact Sub.refl _ | exact Sub.nil _ | refine Sub.chunk (by repeat (first | exact Pick.here | apply Pick.there | apply Pick.seg)) (by rfl) ?_ | refine Sub.seg (by repeat (first | exact PickSeg.here | exact PickSeg.all | apply PickSeg.there | apply PickSeg.seg)) ?_ | exact Sub.seg0 (by repeat (first | exact PickSeg.here | exact PickSeg.all | apply PickSeg.there | apply PickSeg.seg)) | apply Sub.assoc))), ?_⟩
                refine kt_gv rfl rfl rfl rfl rfl (v_not) ?_
                refine kt_d rfl rfl rfl (v_pt rfl) ?_
                refine kt_d rfl rfl rfl (v_mv) ?_
                refine kt_one ?_
                refine kl_gk rfl rfl rfl rfl hb26 (n_call Tryd.call18 (w_laws_alive hv27) ?_)
                rintro _ _ ⟨rfl, rfl⟩
                refine ⟨.inl (by (repeat (first | exact Sub.refl _ | exact Sub.nil _ | refine Sub.chunk (by repeat (first | exact Pick.here | apply Pick.there | apply Pick.seg)) (by rfl) ?_ | refine Sub.seg (by repeat (first | exact PickSeg.here | exact PickSeg.all | apply PickSeg.there | apply PickSeg.seg)) ?_ | exact Sub.seg0 (by repeat (first | exact PickSeg.here | exact PickSeg.all | apply PickSeg.there | apply PickSeg.seg)) | apply Sub.assoc))), ?_⟩
                refine kt_d rfl rfl rfl (v_pt hb26) ?_
                refine kt_d rfl rfl rfl (v_as) ?_
                refine kt_nil ?_
                refine kn_then ?_
                exact ⟨(), hd_mk trivial⟩
              ·
                refine kl_gk rfl rfl rfl rfl rfl (n_lit (enc := encAirway) [_] ([(⟨0, 0, 1⟩ : Airway)] : List Airway) Tryd.runUnderlying30 Tryd.sizeOf36 Tryd.zeroValue36 (fun a19 => ?_))
                refine ⟨.inl (by (repeat (first | exact Sub.refl _ | exact Sub.nil _ | refine Sub.chunk (by repeat (first | exact Pick.here | apply Pick.there | apply Pick.seg)) (by rfl) ?_ | refine Sub.seg (by repeat (first | exact PickSeg.here | exact PickSeg.all | apply PickSeg.there | apply PickSeg.seg)) ?_ | exact Sub.seg0 (by repeat (first | exact PickSeg.here | exact PickSeg.all | apply PickSeg.there | apply PickSeg.seg)) | apply Sub.assoc))), ?_⟩
                refine kt_one ?_
                refine kl_gk rfl rfl rfl rfl rfl (n_app (enc := encAirway) ok_encAirway hz16 Tryd.underlying30 Tryd.type36 (by decide) (fun a17 c18 => ?_))
                refine ⟨.inl (by (repeat (first | exact Sub.refl _ | exact Sub.nil _ | refine Sub.chunk (by repeat (first | exact Pick.here | apply Pick.there | apply Pick.seg)) (by rfl) ?_ | refine Sub.seg (by repeat (first | exact PickSeg.here | exact PickSeg.all | apply PickSeg.there | apply PickSeg.seg)) ?_ | exact Sub.seg0 (by repeat (first | exact PickSeg.here | exact PickSeg.all | apply PickSeg.there | apply PickSeg.seg)) | apply Sub.assoc))), ?_⟩
                refine kt_one ?_
                refine kl_gk rfl rfl rfl rfl rfl (n_app (enc := encAirway) ok_encAirway hz20 Tryd.underlying30 Tryd.type36 (by decide) (fun a21 c22 => ?_))
                refine ⟨.inl (by (repeat (first | exact Sub.refl _ | exact Sub.nil _ | refine Sub.chunk (by repeat (first | exact Pick.here | apply Pick.there | apply Pick.seg)) (by rfl) ?_ | refine Sub.seg (by repeat (first | exact PickSeg.here | exact PickSeg.all | apply PickSeg.there | apply PickSeg.seg)) ?_ | exact Sub.seg0 (by repeat (first | exact PickSeg.here | exact PickSeg.all | apply PickSeg.there | apply PickSeg.seg)) | apply Sub.assoc))), ?_⟩
                refine kt_gv rfl rfl rfl rfl rfl (v_bd [(0, _), (1, _)] [_, _] Tryd.zeroValue32 Tryd.runUnderlying32 pl_32) ?_
                refine kt_one ?_
                refine kl_gk rfl rfl rfl rfl rfl (n_call Tryd.call20 (w_impl_MineValid a21 (((([] : List Airway) ++ v4.aw) ++ ([(⟨0, 0, 1⟩ : Airway)] : List Airway)).length) c22 hv23) ?_)
                rintro _ _ ⟨rfl, rfl⟩
                refine ⟨.inl (by (repeat (first | exact Sub.refl _ | exact Sub.nil _ | refine Sub.chunk (by repeat (first | exact Pick.here | apply Pick.there | apply Pick.seg)) (by rfl) ?_ | refine Sub.seg (by repeat (first | exact PickSeg.here | exact PickSeg.all | apply PickSeg.there | apply PickSeg.seg)) ?_ | exact Sub.seg0 (by repeat (first | exact PickSeg.here | exact PickSeg.all | apply PickSeg.there | apply PickSeg.seg)) | apply Sub.assoc))), ?_⟩
                refine kt_gv rfl rfl rfl rfl rfl (v_not) ?_
                refine kt_d rfl rfl rfl (v_pt rfl) ?_
                refine kt_d rfl rfl rfl (v_mv) ?_
                refine kt_one ?_
                refine kl_gk rfl rfl rfl rfl hb26 (n_call Tryd.call18 (w_laws_alive hv27) ?_)
                rintro _ _ ⟨rfl, rfl⟩
                refine ⟨.inl (by (repeat (first | exact Sub.refl _ | exact Sub.nil _ | refine Sub.chunk (by repeat (first | exact Pick.here | apply Pick.there | apply Pick.seg)) (by rfl) ?_ | refine Sub.seg (by repeat (first | exact PickSeg.here | exact PickSeg.all | apply PickSeg.there | apply PickSeg.seg)) ?_ | exact Sub.seg0 (by repeat (first | exact PickSeg.here | exact PickSeg.all | apply PickSeg.there | apply PickSeg.seg)) | apply Sub.assoc))), ?_⟩
                refine kt_d rfl rfl rfl (v_pt hb26) ?_
                refine kt_d rfl rfl rfl (v_as) ?_
                refine kt_nil ?_
                refine kn_then ?_
                exact ⟨(), hd_mk trivial⟩
            ·
              refine kl_gk rfl rfl rfl rfl rfl (n_lit (enc := encAirway) [_] ([(⟨0, 0, 1⟩ : Airway)] : List Airway) Tryd.runUnderlying30 Tryd.sizeOf36 Tryd.zeroValue36 (fun a19 => ?_))
              refine ⟨.inl (by (repeat (first | exact Sub.refl _ | exact Sub.nil _ | refine Sub.chunk (by repeat (first | exact Pick.here | apply Pick.there | apply Pick.seg)) (by rfl) ?_ | refine Sub.seg (by repeat (first | exact PickSeg.here | exact PickSeg.all | apply PickSeg.there | apply PickSeg.seg)) ?_ | exact Sub.seg0 (by repeat (first | exact PickSeg.here | exact PickSeg.all | apply PickSeg.there | apply PickSeg.seg)) | apply Sub.assoc))), ?_⟩
              refine kt_one ?_
              refine kl_gk rfl rfl rfl rfl rfl (n_lit (enc := encAirway) [] ([] : List Airway) Tryd.runUnderlying30 Tryd.sizeOf36 Tryd.zeroValue36 (fun a15 => ?_))
              refine ⟨.inl (by (repeat (first | exact Sub.refl _ | exact Sub.nil _ | refine Sub.chunk (by repeat (first | exact Pick.here | apply Pick.there | apply Pick.seg)) (by rfl) ?_ | refine Sub.seg (by repeat (first | exact PickSeg.here | exact PickSeg.all | apply PickSeg.there | apply PickSeg.seg)) ?_ | exact Sub.seg0 (by repeat (first | exact PickSeg.here | exact PickSeg.all | apply PickSeg.there | apply PickSeg.seg)) | apply Sub.assoc))), ?_⟩
              refine kt_one ?_
              refine kl_gk rfl rfl rfl rfl rfl (n_app (enc := encAirway) ok_encAirway hz16 Tryd.underlying30 Tryd.type36 (by decide) (fun a17 c18 => ?_))
              refine ⟨.inl (by (repeat (first | exact Sub.refl _ | exact Sub.nil _ | refine Sub.chunk (by repeat (first | exact Pick.here | apply Pick.there | apply Pick.seg)) (by rfl) ?_ | refine Sub.seg (by repeat (first | exact PickSeg.here | exact PickSeg.all | apply PickSeg.there | apply PickSeg.seg)) ?_ | exact Sub.seg0 (by repeat (first | exact PickSeg.here | exact PickSeg.all | apply PickSeg.there | apply PickSeg.seg)) | apply Sub.assoc))), ?_⟩
              refine kt_one ?_
              refine kl_gk rfl rfl rfl rfl rfl (n_app (enc := encAirway) ok_encAirway hz20 Tryd.underlying30 Tryd.type36 (by decide) (fun a21 c22 => ?_))
              refine ⟨.inl (by (repeat (first | exact Sub.refl _ | exact Sub.nil _ | refine Sub.chunk (by repeat (first | exact Pick.here | apply Pick.there | apply Pick.seg)) (by rfl) ?_ | refine Sub.seg (by repeat (first | exact PickSeg.here | exact PickSeg.all | apply PickSeg.there | apply PickSeg.seg)) ?_ | exact Sub.seg0 (by repeat (first | exact PickSeg.here | exact PickSeg.all | apply PickSeg.there | apply PickSeg.seg)) | apply Sub.assoc))), ?_⟩
              refine kt_gv rfl rfl rfl rfl rfl (v_bd [(0, _), (1, _)] [_, _] Tryd.zeroValue32 Tryd.runUnderlying32 pl_32) ?_
              refine kt_one ?_
              refine kl_gk rfl rfl rfl rfl rfl (n_call Tryd.call20 (w_impl_MineValid a21 (((([] : List Airway) ++ v4.aw) ++ ([(⟨0, 0, 1⟩ : Airway)] : List Airway)).length) c22 hv23) ?_)
              rintro _ _ ⟨rfl, rfl⟩
              refine ⟨.inl (by (repeat (first | exact Sub.refl _ | exact Sub.nil _ | refine Sub.chunk (by repeat (first | exact Pick.here | apply Pick.there | apply Pick.seg)) (by rfl) ?_ | refine Sub.seg (by repeat (first | exact PickSeg.here | exact PickSeg.all | apply PickSeg.there | apply PickSeg.seg)) ?_ | exact Sub.seg0 (by repeat (first | exact PickSeg.here | exact PickSeg.all | apply PickSeg.there | apply PickSeg.seg)) | apply Sub.assoc))), ?_⟩
              refine kt_gv rfl rfl rfl rfl rfl (v_not) ?_
              refine kt_d rfl rfl rfl (v_pt rfl) ?_
              refine kt_d rfl rfl rfl (v_mv) ?_
              refine kt_one ?_
              refine kl_gk rfl rfl rfl rfl hb26 (n_call Tryd.call18 (w_laws_alive hv27) ?_)
              rintro _ _ ⟨rfl, rfl⟩
              refine ⟨.inl (by (repeat (first | exact Sub.refl _ | exact Sub.nil _ | refine Sub.chunk (by repeat (first | exact Pick.here | apply Pick.there | apply Pick.seg)) (by rfl) ?_ | refine Sub.seg (by repeat (first | exact PickSeg.here | exact PickSeg.all | apply PickSeg.there | apply PickSeg.seg)) ?_ | exact Sub.seg0 (by repeat (first | exact PickSeg.here | exact PickSeg.all | apply PickSeg.there | apply PickSeg.seg)) | apply Sub.assoc))), ?_⟩
              refine kt_d rfl rfl rfl (v_pt hb26) ?_
              refine kt_d rfl rfl rfl (v_as) ?_
              refine kt_nil ?_
              refine kn_then ?_
              exact ⟨(), hd_mk trivial⟩
          · intro y30 _
            refine kn_then ?_
            refine kwp_ret ?_
            obtain rfl := e_some h
            refine r1 [] ?_
            exact ⟨rfl, rfl⟩
        ·
          replace h := e_f h hb26
          refine kwp_cutS (inv := [(2, .bool false)]) (fun (y : Unit) => []) (fun (y : Unit) => []) (fun (y : Unit) => True) ?_ ?_
          ·
            refine kwp_tree (.quiet 0 (.quiet 1 (.quiet 2 (.quiet 3 (.quiet 4 (.quiet 5 (.quiet 6 (.quiet 7 (.quiet 8 (.quiet 9 (.quiet 10 (.quiet 11 (.quiet 12 (.quiet 13 (.quiet 14 (.one 15 (.quiet 16 (.quiet 17 (.quiet 18 (.quiet 19 (.quiet 21 (.quiet 22 (.quiet 24 (.two 20 (.two 23 (.one 25 (.one 26 (.quiet 27 (.one 28 (.quiet 29 (.quiet 30 (.quiet 31 (.one 32 (.quiet 33 (.quiet 34 .stop)))))))))) 25 (.one 23 (.one 26 (.quiet 27 (.one 28 (.quiet 29 (.quiet 30 (.quiet 31 (.one 32 (.quiet 33 (.quiet 34 .stop))))))))))) 25 (.one 20 (.one 23 (.one 26 (.quiet 27 (.one 28 (.quiet 29 (.quiet 30 (.quiet 31 (.one 32 (.quiet 33 (.quiet 34 .stop))))))))))))))))))))))))))))))))))) [] [⟨.pointer (some p3_6), 2, [[.int .i64 v4.p, .slice q51a v4.aw.length q51c]]⟩] drawMixed (by kernel_rfl) nopan (by (repeat (first | exact Sub.refl _ | exact Sub.nil _ | refine Sub.chunk (by repeat (first | exact Pick.here | apply Pick.there | apply Pick.seg)) (by rfl) ?_ | refine Sub.seg (by repeat (first | exact PickSeg.here | exact PickSeg.all | apply PickSeg.there | apply PickSeg.seg)) ?_ | exact Sub.seg0 (by repeat (first | exact PickSeg.here | exact PickSeg.all | apply PickSeg.there | apply PickSeg.seg)) | apply Sub.assoc))) ?_
            refine kt_d rfl rfl rfl (v_mv) ?_
            refine kt_d rfl rfl rfl (v_not) ?_
            refine kt_d rfl rfl rfl (v_mv) ?_
            refine kt_skip rfl rfl rfl rfl hb14 ?_
            refine kt_skip rfl rfl rfl rfl hb14 ?_
            refine kt_skip rfl rfl rfl rfl hb14 ?_
            refine kt_skip rfl rfl rfl rfl hb14 ?_
            refine kt_d rfl rfl rfl (v_pt hb14) ?_
            refine kt_d rfl rfl rfl (v_mv) ?_
            refine kt_skip rfl rfl rfl rfl rfl ?_
            refine kt_skip rfl rfl rfl rfl rfl ?_
            refine kt_skip rfl rfl rfl rfl rfl ?_
            refine kt_skip rfl rfl rfl rfl rfl ?_
            refine kt_skip rfl rfl rfl rfl rfl ?_
            refine kt_skip rfl rfl rfl rfl rfl ?_
            refine kt_one ?_
            refine kl_skip rfl rfl rfl rfl rfl (by (repeat (first | exact Sub.refl _ | exact Sub.nil _ | refine Sub.chunk (by repeat (first | exact Pick.here | apply Pick.there | apply Pick.seg)) (by rfl) ?_ | refine Sub.seg (by repeat (first | exact PickSeg.here | exact PickSeg.all | apply PickSeg.there | apply PickSeg.seg)) ?_ | exact Sub.seg0 (by repeat (first | exact PickSeg.here | exact PickSeg.all | apply PickSeg.there | apply PickSeg.seg)) | apply Sub.assoc))) ?_
            refine kt_d rfl rfl rfl (v_pt rfl) ?_
            refine kt_d rfl rfl rfl (v_mv) ?_
            refine kt_gv rfl rfl rfl rfl rfl (v_fb fa_32_0) ?_
            refine kt_gv rfl rfl rfl rfl rfl (v_ldb Tryd.isAgg3) ?_
            refine kt_gv rfl rfl rfl rfl rfl (v_fb fa_32_1) ?_
            refine kt_gv rfl rfl rfl rfl rfl (v_ldb Tryd.isAgg30) ?_
            refine kt_gv rfl rfl rfl rfl rfl (v_bd [(2, _)] [.int .i64 0, .int .i64 0, _] Tryd.zeroValue36 Tryd.runUnderlying36 pl_36) ?_
            refine kt_two ?_ ?_
            ·
              refine kl_gk rfl rfl rfl rfl rfl (n_lit (enc := encAirway) [] ([] : List Airway) Tryd.runUnderlying30 Tryd.sizeOf36 Tryd.zeroValue36 (fun a15 => ?_))
              refine ⟨.inl (by (repeat (first | exact Sub.refl _ | exact Sub.nil _ | refine Sub.chunk (by repeat (first | exact Pick.here | apply Pick.there | apply Pick.seg)) (by rfl) ?_ | refine Sub.seg (by repeat (first | exact PickSeg.here | exact PickSeg.all | apply PickSeg.there | apply PickSeg.seg)) ?_ | exact Sub.seg0 (by repeat (first | exact PickSeg.here | exact PickSeg.all | apply PickSeg.there | apply PickSeg.seg)) | apply Sub.assoc))), ?_⟩
              refine kt_two ?_ ?_
              ·
                refine kl_gk rfl rfl rfl rfl rfl (n_app (enc := encAirway) ok_encAirway hz16 Tryd.underlying30 Tryd.type36 (by decide) (fun a17 c18 => ?_))
                refine ⟨.inl (by (repeat (first | exact Sub.refl _ | exact Sub.nil _ | refine Sub.chunk (by repeat (first | exact Pick.here | apply Pick.there | apply Pick.seg)) (by rfl) ?_ | refine Sub.seg (by repeat (first | exact PickSeg.here | exact PickSeg.all | apply PickSeg.there | apply PickSeg.seg)) ?_ | exact Sub.seg0 (by repeat (first | exact PickSeg.here | exact PickSeg.all | apply PickSeg.there | apply PickSeg.seg)) | apply Sub.assoc))), ?_⟩
                refine kt_one ?_
                refine kl_gk rfl rfl rfl rfl rfl (n_lit (enc := encAirway) [_] ([(⟨0, 0, 1⟩ : Airway)] : List Airway) Tryd.runUnderlying30 Tryd.sizeOf36 Tryd.zeroValue36 (fun a19 => ?_))
                refine ⟨.inl (by (repeat (first | exact Sub.refl _ | exact Sub.nil _ | refine Sub.chunk (by repeat (first | exact Pick.here | apply Pick.there | apply Pick.seg)) (by rfl) ?_ | refine Sub.seg (by repeat (first | exact PickSeg.here | exact PickSeg.all | apply PickSeg.there | apply PickSeg.seg)) ?_ | exact Sub.seg0 (by repeat (first | exact PickSeg.here | exact PickSeg.all | apply PickSeg.there | apply PickSeg.seg)) | apply Sub.assoc))), ?_⟩
                refine kt_one ?_
                refine kl_gk rfl rfl rfl rfl rfl (n_app (enc := encAirway) ok_encAirway hz20 Tryd.underlying30 Tryd.type36 (by decide) (fun a21 c22 => ?_))
                refine ⟨.inl (by (repeat (first | exact Sub.refl _ | exact Sub.nil _ | refine Sub.chunk (by repeat (first | exact Pick.here | apply Pick.there | apply Pick.seg)) (by rfl) ?_ | refine Sub.seg (by repeat (first | exact PickSeg.here | exact PickSeg.all | apply PickSeg.there | apply PickSeg.seg)) ?_ | exact Sub.seg0 (by repeat (first | exact PickSeg.here | exact PickSeg.all | apply PickSeg.there | apply PickSeg.seg)) | apply Sub.assoc))), ?_⟩
                refine kt_gv rfl rfl rfl rfl rfl (v_bd [(0, _), (1, _)] [_, _] Tryd.zeroValue32 Tryd.runUnderlying32 pl_32) ?_
                refine kt_one ?_
                refine kl_gk rfl rfl rfl rfl rfl (n_call Tryd.call20 (w_impl_MineValid a21 (((([] : List Airway) ++ v4.aw) ++ ([(⟨0, 0, 1⟩ : Airway)] : List Airway)).length) c22 hv23) ?_)
                rintro _ _ ⟨rfl, rfl⟩
                refine ⟨.inl (by (repeat (first | exact Sub.refl _ | exact Sub.nil _ | refine Sub.chunk (by repeat (first | exact Pick.here | apply Pick.there | apply Pick.seg)) (by rfl) ?_ | refine Sub.seg (by repeat (first | exact PickSeg.here | exact PickSeg.all | apply PickSeg.there | apply PickSeg.seg)) ?_ | exact Sub.seg0 (by repeat (first | exact PickSeg.here | exact PickSeg.all | apply PickSeg.there | apply PickSeg.seg)) | apply Sub.assoc))), ?_⟩
                refine kt_gv rfl rfl rfl rfl rfl (v_not) ?_
                refine kt_d rfl rfl rfl (v_pt rfl) ?_
                refine kt_d rfl rfl rfl (v_mv) ?_
                refine kt_one ?_
                refine kl_skip rfl rfl rfl rfl hb26 (by (repeat (first | exact Sub.refl _ | exact Sub.nil _ | refine Sub.chunk (by repeat (first | exact Pick.here | apply Pick.there | apply Pick.seg)) (by rfl) ?_ | refine Sub.seg (by repeat (first | exact PickSeg.here | exact PickSeg.all | apply PickSeg.there | apply PickSeg.seg)) ?_ | exact Sub.seg0 (by repeat (first | exact PickSeg.here | exact PickSeg.all | apply PickSeg.there | apply PickSeg.seg)) | apply Sub.assoc))) ?_
                refine kt_d rfl rfl rfl (v_pf hb26) ?_
                refine kt_d rfl rfl rfl (v_as) ?_
                refine kt_nil ?_
                refine kn_then ?_
                exact ⟨(), hd_mk trivial⟩
              ·
                refine kl_gk rfl rfl rfl rfl rfl (n_lit (enc := encAirway) [_] ([(⟨0, 0, 1⟩ : Airway)] : List Airway) Tryd.runUnderlying30 Tryd.sizeOf36 Tryd.zeroValue36 (fun a19 => ?_))
                refine ⟨.inl (by (repeat (first | exact Sub.refl _ | exact Sub.nil _ | refine Sub.chunk (by repeat (first | exact Pick.here | apply Pick.there | apply Pick.seg)) (by rfl) ?_ | refine Sub.seg (by repeat (first | exact PickSeg.here | exact PickSeg.all | apply PickSeg.there | apply PickSeg.seg)) ?_ | exact Sub.seg0 (by repeat (first | exact PickSeg.here | exact PickSeg.all | apply PickSeg.there | apply PickSeg.seg)) | apply Sub.assoc))), ?_⟩
                refine kt_one ?_
                refine kl_gk rfl rfl rfl rfl rfl (n_app (enc := encAirway) ok_encAirway hz16 Tryd.underlying30 Tryd.type36 (by decide) (fun a17 c18 => ?_))
                refine ⟨.inl (by (repeat (first | exact Sub.refl _ | exact Sub.nil _ | refine Sub.chunk (by repeat (first | exact Pick.here | apply Pick.there | apply Pick.seg)) (by rfl) ?_ | refine Sub.seg (by repeat (first | exact PickSeg.here | exact PickSeg.all | apply PickSeg.there | apply PickSeg.seg)) ?_ | exact Sub.seg0 (by repeat (first | exact PickSeg.here | exact PickSeg.all | apply PickSeg.there | apply PickSeg.seg)) | apply Sub.assoc))), ?_⟩
                refine kt_one ?_
                refine kl_gk rfl rfl rfl rfl rfl (n_app (enc := encAirway) ok_encAirway hz20 Tryd.underlying30 Tryd.type36 (by decide) (fun a21 c22 => ?_))
                refine ⟨.inl (by (repeat (first | exact Sub.refl _ | exact Sub.nil _ | refine Sub.chunk (by repeat (first | exact Pick.here | apply Pick.there | apply Pick.seg)) (by rfl) ?_ | refine Sub.seg (by repeat (first | exact PickSeg.here | exact PickSeg.all | apply PickSeg.there | apply PickSeg.seg)) ?_ | exact Sub.seg0 (by repeat (first | exact PickSeg.here | exact PickSeg.all | apply PickSeg.there | apply PickSeg.seg)) | apply Sub.assoc))), ?_⟩
                refine kt_gv rfl rfl rfl rfl rfl (v_bd [(0, _), (1, _)] [_, _] Tryd.zeroValue32 Tryd.runUnderlying32 pl_32) ?_
                refine kt_one ?_
                refine kl_gk rfl rfl rfl rfl rfl (n_call Tryd.call20 (w_impl_MineValid a21 (((([] : List Airway) ++ v4.aw) ++ ([(⟨0, 0, 1⟩ : Airway)] : List Airway)).length) c22 hv23) ?_)
                rintro _ _ ⟨rfl, rfl⟩
                refine ⟨.inl (by (repeat (first | exact Sub.refl _ | exact Sub.nil _ | refine Sub.chunk (by repeat (first | exact Pick.here | apply Pick.there | apply Pick.seg)) (by rfl) ?_ | refine Sub.seg (by repeat (first | exact PickSeg.here | exact PickSeg.all | apply PickSeg.there | apply PickSeg.seg)) ?_ | exact Sub.seg0 (by repeat (first | exact PickSeg.here | exact PickSeg.all | apply PickSeg.there | apply PickSeg.seg)) | apply Sub.assoc))), ?_⟩
                refine kt_gv rfl rfl rfl rfl rfl (v_not) ?_
                refine kt_d rfl rfl rfl (v_pt rfl) ?_
                refine kt_d rfl rfl rfl (v_mv) ?_
                refine kt_one ?_
                refine kl_skip rfl rfl rfl rfl hb26 (by (repeat (first | exact Sub.refl _ | exact Sub.nil _ | refine Sub.chunk (by repeat (first | exact Pick.here | apply Pick.there | apply Pick.seg)) (by rfl) ?_ | refine Sub.seg (by repeat (first | exact PickSeg.here | exact PickSeg.all | apply PickSeg.there | apply PickSeg.seg)) ?_ | exact Sub.seg0 (by repeat (first | exact PickSeg.here | exact PickSeg.all | apply PickSeg.there | apply PickSeg.seg)) | apply Sub.assoc))) ?_
                refine kt_d rfl rfl rfl (v_pf hb26) ?_
                refine kt_d rfl rfl rfl (v_as) ?_
                refine kt_nil ?_
                refine kn_then ?_
                exact ⟨(), hd_mk trivial⟩
            ·
              refine kl_gk rfl rfl rfl rfl rfl (n_lit (enc := encAirway) [_] ([(⟨0, 0, 1⟩ : Airway)] : List Airway) Tryd.runUnderlying30 Tryd.sizeOf36 Tryd.zeroValue36 (fun a19 => ?_))
              refine ⟨.inl (by (repeat (first | exact Sub.refl _ | exact Sub.nil _ | refine Sub.chunk (by repeat (first | exact Pick.here | apply Pick.there | apply Pick.seg)) (by rfl) ?_ | refine Sub.seg (by repeat (first | exact PickSeg.here | exact PickSeg.all | apply PickSeg.there | apply PickSeg.seg)) ?_ | exact Sub.seg0 (by repeat (first | exact PickSeg.here | exact PickSeg.all | apply PickSeg.there | apply PickSeg.seg)) | apply Sub.assoc))), ?_⟩
              refine kt_one ?_
              refine kl_gk rfl rfl rfl rfl rfl (n_lit (enc := encAirway) [] ([] : List Airway) Tryd.runUnderlying30 Tryd.sizeOf36 Tryd.zeroValue36 (fun a15 => ?_))
              refine ⟨.inl (by (repeat (first | exact Sub.refl _ | exact Sub.nil _ | refine Sub.chunk (by repeat (first | exact Pick.here | apply Pick.there | apply Pick.seg)) (by rfl) ?_ | refine Sub.seg (by repeat (first | exact PickSeg.here | exact PickSeg.all | apply PickSeg.there | apply PickSeg.seg)) ?_ | exact Sub.seg0 (by repeat (first | exact PickSeg.here | exact PickSeg.all | apply PickSeg.there | apply PickSeg.seg)) | apply Sub.assoc))), ?_⟩
              refine kt_one ?_
              refine kl_gk rfl rfl rfl rfl rfl (n_app (enc := encAirway) ok_encAirway hz16 Tryd.underlying30 Tryd.type36 (by decide) (fun a17 c18 => ?_))
              refine ⟨.inl (by (repeat (first | exact Sub.refl _ | exact Sub.nil _ | refine Sub.chunk (by repeat (first | exact Pick.here | apply Pick.there | apply Pick.seg)) (by rfl) ?_ | refine Sub.seg (by repeat (first | exact PickSeg.here | exact PickSeg.all | apply PickSeg.there | apply PickSeg.seg)) ?_ | exact Sub.seg0 (by repeat (first | exact PickSeg.here | exact PickSeg.all | apply PickSeg.there | apply PickSeg.seg)) | apply Sub.assoc))), ?_⟩
              refine kt_one ?_
              refine kl_gk rfl rfl rfl rfl rfl (n_app (enc := encAirway) ok_encAirway hz20 Tryd.underlying30 Tryd.type36 (by decide) (fun a21 c22 => ?_))
              refine ⟨.inl (by (repeat (first | exact Sub.refl _ | exact Sub.nil _ | refine Sub.chunk (by repeat (first | exact Pick.here | apply Pick.there | apply Pick.seg)) (by rfl) ?_ | refine Sub.seg (by repeat (first | exact PickSeg.here | exact PickSeg.all | apply PickSeg.there | apply PickSeg.seg)) ?_ | exact Sub.seg0 (by repeat (first | exact PickSeg.here | exact PickSeg.all | apply PickSeg.there | apply PickSeg.seg)) | apply Sub.assoc))), ?_⟩
              refine kt_gv rfl rfl rfl rfl rfl (v_bd [(0, _), (1, _)] [_, _] Tryd.zeroValue32 Tryd.runUnderlying32 pl_32) ?_
              refine kt_one ?_
              refine kl_gk rfl rfl rfl rfl rfl (n_call Tryd.call20 (w_impl_MineValid a21 (((([] : List Airway) ++ v4.aw) ++ ([(⟨0, 0, 1⟩ : Airway)] : List Airway)).length) c22 hv23) ?_)
              rintro _ _ ⟨rfl, rfl⟩
              refine ⟨.inl (by (repeat (first | exact Sub.refl _ | exact Sub.nil _ | refine Sub.chunk (by repeat (first | exact Pick.here | apply Pick.there | apply Pick.seg)) (by rfl) ?_ | refine Sub.seg (by repeat (first | exact PickSeg.here | exact PickSeg.all | apply PickSeg.there | apply PickSeg.seg)) ?_ | exact Sub.seg0 (by repeat (first | exact PickSeg.here | exact PickSeg.all | apply PickSeg.there | apply PickSeg.seg)) | apply Sub.assoc))), ?_⟩
              refine kt_gv rfl rfl rfl rfl rfl (v_not) ?_
              refine kt_d rfl rfl rfl (v_pt rfl) ?_
              refine kt_d rfl rfl rfl (v_mv) ?_
              refine kt_one ?_
              refine kl_skip rfl rfl rfl rfl hb26 (by (repeat (first | exact Sub.refl _ | exact Sub.nil _ | refine Sub.chunk (by repeat (first | exact Pick.here | apply Pick.there | apply Pick.seg)) (by rfl) ?_ | refine Sub.seg (by repeat (first | exact PickSeg.here | exact PickSeg.all | apply PickSeg.there | apply PickSeg.seg)) ?_ | exact Sub.seg0 (by repeat (first | exact PickSeg.here | exact PickSeg.all | apply PickSeg.there | apply PickSeg.seg)) | apply Sub.assoc))) ?_
              refine kt_d rfl rfl rfl (v_pf hb26) ?_
              refine kt_d rfl rfl rfl (v_as) ?_
              refine kt_nil ?_
              refine kn_then ?_
              exact ⟨(), hd_mk trivial⟩
          · intro y31 _
            refine kn_then ?_
            refine kwp_ret ?_
            obtain rfl := e_some h
            refine r1 [] ?_
            exact ⟨rfl, rfl⟩
      ·
        replace h := e_f h hb14
        refine sp (((v4.aw.length : Nat) : Int) == 0) (fun hb32 => ?_) (fun hb32 => ?_)
        ·
          replace h := e_t h hb32
          obtain ⟨hz34, h⟩ := e_need h
          obtain ⟨hz38, h⟩ := e_need h
          obtain ⟨v42, hv41, h⟩ := e_bind h
          refine sp (!v42) (fun hb44 => ?_) (fun hb44 => ?_)
          ·
            replace h := e_t h hb44
            obtain ⟨v46, hv45, h⟩ := e_bind h
            refine kwp_cutS (inv := [(2, .bool v46)]) (fun (y : Unit) => []) (fun (y : Unit) => []) (fun (y : Unit) => True) ?_ ?_
            ·
              refine kwp_tree (.quiet 0 (.quiet 1 (.quiet 2 (.quiet 3 (.quiet 4 (.quiet 5 (.quiet 6 (.quiet 7 (.quiet 8 (.quiet 9 (.quiet 10 (.quiet 11 (.quiet 12 (.quiet 13 (.quiet 14 (.one 15 (.quiet 16 (.quiet 17 (.quiet 18 (.quiet 19 (.quiet 21 (.quiet 22 (.quiet 24 (.two 20 (.two 23 (.one 25 (.one 26 (.quiet 27 (.one 28 (.quiet 29 (.quiet 30 (.quiet 31 (.one 32 (.quiet 33 (.quiet 34 .stop)))))))))) 25 (.one 23 (.one 26 (.quiet 27 (.one 28 (.quiet 29 (.quiet 30 (.quiet 31 (.one 32 (.quiet 33 (.quiet 34 .stop))))))))))) 25 (.one 20 (.one 23 (.one 26 (.quiet 27 (.one 28 (.quiet 29 (.quiet 30 (.quiet 31 (.one 32 (.quiet 33 (.quiet 34 .stop))))))))))))))))))))))))))))))))))) [] [⟨.pointer (some p3_6), 2, [[.int .i64 v4.p, .slice q51a v4.aw.length q51c]]⟩] drawMixed (by kernel_rfl) nopan (by (repeat (first | exact Sub.refl _ | exact Sub.nil _ | refine Sub.chunk (by repeat (first | exact Pick.here | apply Pick.there | apply Pick.seg)) (by rfl) ?_ | refine Sub.seg (by repeat (first | exact PickSeg.here | exact PickSeg.all | apply PickSeg.there | apply PickSeg.seg)) ?_ | exact Sub.seg0 (by repeat (first | exact PickSeg.here | exact PickSeg.all | apply PickSeg.there | apply PickSeg.seg)) | apply Sub.assoc))) ?_
              refine kt_d rfl rfl rfl (v_mv) ?_
              refine kt_d rfl rfl rfl (v_not) ?_
              refine kt_d rfl rfl rfl (v_mv) ?_
              refine kt_gv rfl rfl rfl rfl hb14 (v_fb fa_32_1) ?_
              refine kt_gv rfl rfl rfl rfl hb14 (v_ldb Tryd.isAgg30) ?_
              refine kt_gv rfl rfl rfl rfl hb14 (v_len Tryd.runUnderlying30) ?_
              refine kt_gv rfl rfl rfl rfl hb14 (v_cmp) ?_
              refine kt_d rfl rfl rfl (v_pf hb14) ?_
              refine kt_d rfl rfl rfl (v_mv) ?_
              refine kt_skip rfl rfl rfl rfl hb32 ?_
              refine kt_skip rfl rfl rfl rfl hb32 ?_
              refine kt_skip rfl rfl rfl rfl hb32 ?_
              refine kt_skip rfl rfl rfl rfl hb32 ?_
              refine kt_skip rfl rfl rfl rfl hb32 ?_
              refine kt_skip rfl rfl rfl rfl hb32 ?_
              refine kt_one ?_
              refine kl_skip rfl rfl rfl rfl hb32 (by (repeat (first | exact Sub.refl _ | exact Sub.nil _ | refine Sub.chunk (by repeat (first | exact Pick.here | apply Pick.there | apply Pick.seg)) (by rfl) ?_ | refine Sub.seg (by repeat (first | exact PickSeg.here | exact PickSeg.all | apply PickSeg.there | apply PickSeg.seg)) ?_ | exact Sub.seg0 (by repeat (first | exact PickSeg.here | exact PickSeg.all | apply PickSeg.there | apply PickSeg.seg)) | apply Sub.assoc))) ?_
              refine kt_d rfl rfl rfl (v_pt hb32) ?_
              refine kt_d rfl rfl rfl (v_mv) ?_
              refine kt_gv rfl rfl rfl rfl rfl (v_fb fa_32_0) ?_
              refine kt_gv rfl rfl rfl rfl rfl (v_ldb Tryd.isAgg3) ?_
              refine kt_gv rfl rfl rfl rfl rfl (v_fb fa_32_1) ?_
              refine kt_gv rfl rfl rfl rfl rfl (v_ldb Tryd.isAgg30) ?_
              refine kt_gv rfl rfl rfl rfl rfl (v_bd [(2, _)] [.int .i64 0, .int .i64 0, _] Tryd.zeroValue36 Tryd.runUnderlying36 pl_36) ?_
              refine kt_two ?_ ?_
              ·
                refine kl_gk rfl rfl rfl rfl rfl (n_lit (enc := encAirway) [] ([] : List Airway) Tryd.runUnderlying30 Tryd.sizeOf36 Tryd.zeroValue36 (fun a33 => ?_))
                refine ⟨.inl (by (repeat (first | exact Sub.refl _ | exact Sub.nil _ | refine Sub.chunk (by repeat (first | exact Pick.here | apply Pick.there | apply Pick.seg)) (by rfl) ?_ | refine Sub.seg (by repeat (first | exact PickSeg.here | exact PickSeg.all | apply PickSeg.there | apply PickSeg.seg)) ?_ | exact Sub.seg0 (by repeat (first | exact PickSeg.here | exact PickSeg.all | apply PickSeg.there | apply PickSeg.seg)) | apply Sub.assoc))), ?_⟩
                refine kt_two ?_ ?_
                ·
                  refine kl_gk rfl rfl rfl rfl rfl (n_app (enc := encAirway) ok_encAirway hz34 Tryd.underlying30 Tryd.type36 (by decide) (fun a35 c36 => ?_))
                  refine ⟨.inl (by (repeat (first | exact Sub.refl _ | exact Sub.nil _ | refine Sub.chunk (by repeat (first | exact Pick.here | apply Pick.there | apply Pick.seg)) (by rfl) ?_ | refine Sub.seg (by repeat (first | exact PickSeg.here | exact PickSeg.all | apply PickSeg.there | apply PickSeg.seg)) ?_ | exact Sub.seg0 (by repeat (first | exact PickSeg.here | exact PickSeg.all | apply PickSeg.there | apply PickSeg.seg)) | apply Sub.assoc))), ?_⟩
                  refine kt_one ?_
                  refine kl_gk rfl rfl rfl rfl rfl (n_lit (enc := encAirway) [_] ([(⟨0, 0, 1⟩ : Airway)] : List Airway) Tryd.runUnderlying30 Tryd.sizeOf36 Tryd.zeroValue36 (fun a37 => ?_))
                  refine ⟨.inl (by (repeat (first | exact Sub.refl _ | exact Sub.nil _ | refine Sub.chunk (by repeat (first | exact Pick.here | apply Pick.there | apply Pick.seg)) (by rfl) ?_ | refine Sub.seg (by repeat (first | exact PickSeg.here | exact PickSeg.all | apply PickSeg.there | apply PickSeg.seg)) ?_ | exact Sub.seg0 (by repeat (first | exact PickSeg.here | exact PickSeg.all | apply PickSeg.there | apply PickSeg.seg)) | apply Sub.assoc))), ?_⟩
                  refine kt_one ?_
                  refine kl_gk rfl rfl rfl rfl rfl (n_app (enc := encAirway) ok_encAirway hz38 Tryd.underlying30 Tryd.type36 (by decide) (fun a39 c40 => ?_))
                  refine ⟨.inl (by (repeat (first | exact Sub.refl _ | exact Sub.nil _ | refine Sub.chunk (by repeat (first | exact Pick.here | apply Pick.there | apply Pick.seg)) (by rfl) ?_ | refine Sub.seg (by repeat (first | exact PickSeg.here | exact PickSeg.all | apply PickSeg.there | apply PickSeg.seg)) ?_ | exact Sub.seg0 (by repeat (first | exact PickSeg.here | exact PickSeg.all | apply PickSeg.there | apply PickSeg.seg)) | apply Sub.assoc))), ?_⟩
                  refine kt_gv rfl rfl rfl rfl rfl (v_bd [(0, _), (1, _)] [_, _] Tryd.zeroValue32 Tryd.runUnderlying32 pl_32) ?_
                  refine kt_one ?_
                  refine kl_gk rfl rfl rfl rfl rfl (n_call Tryd.call20 (w_impl_MineValid a39 (((([] : List Airway) ++ v4.aw) ++ ([(⟨0, 0, 1⟩ : Airway)] : List Airway)).length) c40 hv41) ?_)
                  rintro _ _ ⟨rfl, rfl⟩
                  refine ⟨.inl (by (repeat (first | exact Sub.refl _ | exact Sub.nil _ | refine Sub.chunk (by repeat (first | exact Pick.here | apply Pick.there | apply Pick.seg)) (by rfl) ?_ | refine Sub.seg (by repeat (first | exact PickSeg.here | exact PickSeg.all | apply PickSeg.there | apply PickSeg.seg)) ?_ | exact Sub.seg0 (by repeat (first | exact PickSeg.here | exact PickSeg.all | apply PickSeg.there | apply PickSeg.seg)) | apply Sub.assoc))), ?_⟩
                  refine kt_gv rfl rfl rfl rfl rfl (v_not) ?_
                  refine kt_d rfl rfl rfl (v_pt rfl) ?_
                  refine kt_d rfl rfl rfl (v_mv) ?_
                  refine kt_one ?_
                  refine kl_gk rfl rfl rfl rfl hb44 (n_call Tryd.call18 (w_laws_alive hv45) ?_)
                  rintro _ _ ⟨rfl, rfl⟩
                  refine ⟨.inl (by (repeat (first | exact Sub.refl _ | exact Sub.nil _ | refine Sub.chunk (by repeat (first | exact Pick.here | apply Pick.there | apply Pick.seg)) (by rfl) ?_ | refine Sub.seg (by repeat (first | exact PickSeg.here | exact PickSeg.all | apply PickSeg.there | apply PickSeg.seg)) ?_ | exact Sub.seg0 (by repeat (first | exact PickSeg.here | exact PickSeg.all | apply PickSeg.there | apply PickSeg.seg)) | apply Sub.assoc))), ?_⟩
                  refine kt_d rfl rfl rfl (v_pt hb44) ?_
                  refine kt_d rfl rfl rfl (v_as) ?_
                  refine kt_nil ?_
                  refine kn_then ?_
                  exact ⟨(), hd_mk trivial⟩
                ·
                  refine kl_gk rfl rfl rfl rfl rfl (n_lit (enc := encAirway) [_] ([(⟨0, 0, 1⟩ : Airway)] : List Airway) Tryd.runUnderlying30 Tryd.sizeOf36 Tryd.zeroValue36 (fun a37 => ?_))
                  refine ⟨.inl (by (repeat (first | exact Sub.refl _ | exact Sub.nil _ | refine Sub.chunk (by repeat (first | exact Pick.here | apply Pick.there | apply Pick.seg)) (by rfl) ?_ | refine Sub.seg (by repeat (first | exact PickSeg.here | exact PickSeg.all | apply PickSeg.there | apply PickSeg.seg)) ?_ | exact Sub.seg0 (by repeat (first | exact PickSeg.here | exact PickSeg.all | apply PickSeg.there | apply PickSeg.seg)) | apply Sub.assoc))), ?_⟩
                  refine kt_one ?_
                  refine kl_gk rfl rfl rfl rfl rfl (n_app (enc := encAirway) ok_encAirway hz34 Tryd.underlying30 Tryd.type36 (by decide) (fun a35 c36 => ?_))
                  refine ⟨.inl (by (repeat (first | exact Sub.refl _ | exact Sub.nil _ | refine Sub.chunk (by repeat (first | exact Pick.here | apply Pick.there | apply Pick.seg)) (by rfl) ?_ | refine Sub.seg (by repeat (first | exact PickSeg.here | exact PickSeg.all | apply PickSeg.there | apply PickSeg.seg)) ?_ | exact Sub.seg0 (by repeat (first | exact PickSeg.here | exact PickSeg.all | apply PickSeg.there | apply PickSeg.seg)) | apply Sub.assoc))), ?_⟩
                  refine kt_one ?_
                  refine kl_gk rfl rfl rfl rfl rfl (n_app (enc := encAirway) ok_encAirway hz38 Tryd.underlying30 Tryd.type36 (by decide) (fun a39 c40 => ?_))
                  refine ⟨.inl (by (repeat (first | exact Sub.refl _ | exact Sub.nil _ | refine Sub.chunk (by repeat (first | exact Pick.here | apply Pick.there | apply Pick.seg)) (by rfl) ?_ | refine Sub.seg (by repeat (first | exact PickSeg.here | exact PickSeg.all | apply PickSeg.there | apply PickSeg.seg)) ?_ | exact Sub.seg0 (by repeat (first | exact PickSeg.here | exact PickSeg.all | apply PickSeg.there | apply PickSeg.seg)) | apply Sub.assoc))), ?_⟩
                  refine kt_gv rfl rfl rfl rfl rfl (v_bd [(0, _), (1, _)] [_, _] Tryd.zeroValue32 Tryd.runUnderlying32 pl_32) ?_
                  refine kt_one ?_
                  refine kl_gk rfl rfl rfl rfl rfl (n_call Tryd.call20 (w_impl_MineValid a39 (((([] : List Airway) ++ v4.aw) ++ ([(⟨0, 0, 1⟩ : Airway)] : List Airway)).length) c40 hv41) ?_)
                  rintro _ _ ⟨rfl, rfl⟩
                  refine ⟨.inl (by (repeat (first | exact Sub.refl _ | exact Sub.nil _ | refine Sub.chunk (by repeat (first | exact Pick.here | apply Pick.there | apply Pick.seg)) (by rfl) ?_ | refine Sub.seg (by repeat (first | exact PickSeg.here | exact PickSeg.all | apply PickSeg.there | apply PickSeg.seg)) ?_ | exact Sub.seg0 (by repeat (first | exact PickSeg.here | exact PickSeg.all | apply PickSeg.there | apply PickSeg.seg)) | apply Sub.assoc))), ?_⟩
                  refine kt_gv rfl rfl rfl rfl rfl (v_not) ?_
                  refine kt_d rfl rfl rfl (v_pt rfl) ?_
                  refine kt_d rfl rfl rfl (v_mv) ?_
                  refine kt_one ?_
                  refine kl_gk rfl rfl rfl rfl hb44 (n_call Tryd.call18 (w_laws_alive hv45) ?_)
                  rintro _ _ ⟨rfl, rfl⟩
                  refine ⟨.inl (by (repeat (first | exact Sub.refl _ | exact Sub.nil _ | refine Sub.chunk (by repeat (first | exact Pick.here | apply Pick.there | apply Pick.seg)) (by rfl) ?_ | refine Sub.seg (by repeat (first | exact PickSeg.here | exact PickSeg.all | apply PickSeg.there | apply PickSeg.seg)) ?_ | exact Sub.seg0 (by repeat (first | exact PickSeg.here | exact PickSeg.all | apply PickSeg.there | apply PickSeg.seg)) | apply Sub.assoc))), ?_⟩
                  refine kt_d rfl rfl rfl (v_pt hb44) ?_
                  refine kt_d rfl rfl rfl (v_as) ?_
                  refine kt_nil ?_
                  refine kn_then ?_
                  exact ⟨(), hd_mk trivial⟩
              ·
                refine kl_gk rfl rfl rfl rfl rfl (n_lit (enc := encAirway) [_] ([(⟨0, 0, 1⟩ : Airway)] : List Airway) Tryd.runUnderlying30 Tryd.sizeOf36 Tryd.zeroValue36 (fun a37 => ?_))
                refine ⟨.inl (by (repeat (first | exact Sub.refl _ | exact Sub.nil _ | refine Sub.chunk (by repeat (first | exact Pick.here | apply Pick.there | apply Pick.seg)) (by rfl) ?_ | refine Sub.seg (by repeat (first | exact PickSeg.here | exact PickSeg.all | apply PickSeg.there | apply PickSeg.seg)) ?_ | exact Sub.seg0 (by repeat (first | exact PickSeg.here | exact PickSeg.all | apply PickSeg.there | apply PickSeg.seg)) | apply Sub.assoc))), ?_⟩
                refine kt_one ?_
                refine kl_gk rfl rfl rfl rfl rfl (n_lit (enc := encAirway) [] ([] : List Airway) Tryd.runUnderlying30 Tryd.sizeOf36 Tryd.zeroValue36 (fun a33 => ?_))
                refine ⟨.inl (by (repeat (first | exact Sub.refl _ | exact Sub.nil _ | refine Sub.chunk (by repeat (first | exact Pick.here | apply Pick.there | apply Pick.seg)) (by rfl) ?_ | refine Sub.seg (by repeat (first | exact PickSeg.here | exact PickSeg.all | apply PickSeg.there | apply PickSeg.seg)) ?_ | exact Sub.seg0 (by repeat (first | exact PickSeg.here | exact PickSeg.all | apply PickSeg.there | apply PickSeg.seg)) | apply Sub.assoc))), ?_⟩
                refine kt_one ?_
                refine kl_gk rfl rfl rfl rfl rfl (n_app (enc := encAirway) ok_encAirway hz34 Tryd.underlying30 Tryd.type36 (by decide) (fun a35 c36 => ?_))
                refine ⟨.inl (by (repeat (first | exact Sub.refl _ | exact Sub.nil _ | refine Sub.chunk (by repeat (first | exact Pick.here | apply Pick.there | apply Pick.seg)) (by rfl) ?_ | refine Sub.seg (by repeat (first | exact PickSeg.here | exact PickSeg.all | apply PickSeg.there | apply PickSeg.seg)) ?_ | exact Sub.seg0 (by repeat (first | exact PickSeg.here | exact PickSeg.all | apply PickSeg.there | apply PickSeg.seg)) | apply Sub.assoc))), ?_⟩
                refine kt_one ?_
                refine kl_gk rfl rfl rfl rfl rfl (n_app (enc := encAirway) ok_encAirway hz38 Tryd.underlying30 Tryd.type36 (by decide) (fun a39 c40 => ?_))
                refine ⟨.inl (by (repeat (first | exact Sub.refl _ | exact Sub.nil _ | refine Sub.chunk (by repeat (first | exact Pick.here | apply Pick.there | apply Pick.seg)) (by rfl) ?_ | refine Sub.seg (by repeat (first | exact PickSeg.here | exact PickSeg.all | apply PickSeg.there | apply PickSeg.seg)) ?_ | exact Sub.seg0 (by repeat (first | exact PickSeg.here | exact PickSeg.all | apply PickSeg.there | apply PickSeg.seg)) | apply Sub.assoc))), ?_⟩
                refine kt_gv rfl rfl rfl rfl rfl (v_bd [(0, _), (1, _)] [_, _] Tryd.zeroValue32 Tryd.runUnderlying32 pl_32) ?_
                refine kt_one ?_
                refine kl_gk rfl rfl rfl rfl rfl (n_call Tryd.call20 (w_impl_MineValid a39 (((([] : List Airway) ++ v4.aw) ++ ([(⟨0, 0, 1⟩ : Airway)] : List Airway)).length) c40 hv41) ?_)
                rintro _ _ ⟨rfl, rfl⟩
                refine ⟨.inl (by (repeat (first | exact Sub.refl _ | exact Sub.nil _ | refine Sub.chunk (by repeat (first | exact Pick.here | apply Pick.there | apply Pick.seg)) (by rfl) ?_ | refine Sub.seg (by repeat (first | exact PickSeg.here | exact PickSeg.all | apply PickSeg.there | apply PickSeg.seg)) ?_ | exact Sub.seg0 (by repeat (first | exact PickSeg.here | exact PickSeg.all | apply PickSeg.there | apply PickSeg.seg)) | apply Sub.assoc))), ?_⟩
                refine kt_gv rfl rfl rfl rfl rfl (v_not) ?_
                refine kt_d rfl rfl rfl (v_pt rfl) ?_
                refine kt_d rfl rfl rfl (v_mv) ?_
                refine kt_one ?_
                refine kl_gk rfl rfl rfl rfl hb44 (n_call Tryd.call18 (w_laws_alive hv45) ?_)
                rintro _ _ ⟨rfl, rfl⟩
                refine ⟨.inl (by (repeat (first | exact Sub.refl _ | exact Sub.nil _ | refine Sub.chunk (by repeat (first | exact Pick.here | apply Pick.there | apply Pick.seg)) (by rfl) ?_ | refine Sub.seg (by repeat (first | exact PickSeg.here | exact PickSeg.all | apply PickSeg.there | apply PickSeg.seg)) ?_ | exact Sub.seg0 (by repeat (first | exact PickSeg.here | exact PickSeg.all | apply PickSeg.there | apply PickSeg.seg)) | apply Sub.assoc))), ?_⟩
                refine kt_d rfl rfl rfl (v_pt hb44) ?_
                refine kt_d rfl rfl rfl (v_as) ?_
                refine kt_nil ?_
                refine kn_then ?_
                exact ⟨(), hd_mk trivial⟩
            · intro y48 _
              refine kn_then ?_
              refine kwp_ret ?_
              obtain rfl := e_some h
              refine r1 [] ?_
              exact ⟨rfl, rfl⟩
          ·
            replace h := e_f h hb44
            refine kwp_cutS (inv := [(2, .bool false)]) (fun (y : Unit) => []) (fun (y : Unit) => []) (fun (y : Unit) => True) ?_ ?_
            ·
              refine kwp_tree (.quiet 0 (.quiet 1 (.quiet 2 (.quiet 3 (.quiet 4 (.quiet 5 (.quiet 6 (.quiet 7 (.quiet 8 (.quiet 9 (.quiet 10 (.quiet 11 (.quiet 12 (.quiet 13 (.quiet 14 (.one 15 (.quiet 16 (.quiet 17 (.quiet 18 (.quiet 19 (.quiet 21 (.quiet 22 (.quiet 24 (.two 20 (.two 23 (.one 25 (.one 26 (.quiet 27 (.one 28 (.quiet 29 (.quiet 30 (.quiet 31 (.one 32 (.quiet 33 (.quiet 34 .stop)))))))))) 25 (.one 23 (.one 26 (.quiet 27 (.one 28 (.quiet 29 (.quiet 30 (.quiet 31 (.one 32 (.quiet 33 (.quiet 34 .stop))))))))))) 25 (.one 20 (.one 23 (.one 26 (.quiet 27 (.one 28 (.quiet 29 (.quiet 30 (.quiet 31 (.one 32 (.quiet 33 (.quiet 34 .stop))))))))))))))))))))))))))))))))))) [] [⟨.pointer (some p3_6), 2, [[.int .i64 v4.p, .slice q51a v4.aw.length q51c]]⟩] drawMixed (by kernel_rfl) nopan (by (repeat (first | exact Sub.refl _ | exact Sub.nil _ | refine Sub.chunk (by repeat (first | exact Pick.here | apply Pick.there | apply Pick.seg)) (by rfl) ?_ | refine Sub.seg (by repeat (first | exact PickSeg.here | exact PickSeg.all | apply PickSeg.there | apply PickSeg.seg)) ?_ | exact Sub.seg0 (by repeat (first | exact PickSeg.here | exact PickSeg.all | apply PickSeg.there | apply PickSeg.seg)) | apply Sub.assoc))) ?_
              refine kt_d rfl rfl rfl (v_mv) ?_
              refine kt_d rfl rfl rfl (v_not) ?_
              refine kt_d rfl rfl rfl (v_mv) ?_
              refine kt_gv rfl rfl rfl rfl hb14 (v_fb fa_32_1) ?_
              refine kt_gv rfl rfl rfl rfl hb14 (v_ldb Tryd.isAgg30) ?_
              refine kt_gv rfl rfl rfl rfl hb14 (v_len Tryd.runUnderlying30) ?_
              refine kt_gv rfl rfl rfl rfl hb14 (v_cmp) ?_
              refine kt_d rfl rfl rfl (v_pf hb14) ?_
              refine kt_d rfl rfl rfl (v_mv) ?_
              refine kt_skip rfl rfl rfl rfl hb32 ?_
              refine kt_skip rfl rfl rfl rfl hb32 ?_
              refine kt_skip rfl rfl rfl rfl hb32 ?_
              refine kt_skip rfl rfl rfl rfl hb32 ?_
              refine kt_skip rfl rfl rfl rfl hb32 ?_
              refine kt_skip rfl rfl rfl rfl hb32 ?_
              refine kt_one ?_
              refine kl_skip rfl rfl rfl rfl hb32 (by (repeat (first | exact Sub.refl _ | exact Sub.nil _ | refine Sub.chunk (by repeat (first | exact Pick.here | apply Pick.there | apply Pick.seg)) (by rfl) ?_ | refine Sub.seg (by repeat (first | exact PickSeg.here | exact PickSeg.all | apply PickSeg.there | apply PickSeg.seg)) ?_ | exact Sub.seg0 (by repeat (first | exact PickSeg.here | exact PickSeg.all | apply PickSeg.there | apply PickSeg.seg)) | apply Sub.assoc))) ?_
              refine kt_d rfl rfl rfl (v_pt hb32) ?_
              refine kt_d rfl rfl rfl (v_mv) ?_
              refine kt_gv rfl rfl rfl rfl rfl (v_fb fa_32_0) ?_
              refine kt_gv rfl rfl rfl rfl rfl (v_ldb Tryd.isAgg3) ?_
              refine kt_gv rfl rfl rfl rfl rfl (v_fb fa_32_1) ?_
              refine kt_gv rfl rfl rfl rfl rfl (v_ldb Tryd.isAgg30) ?_
              refine kt_gv rfl rfl rfl rfl rfl (v_bd [(2, _)] [.int .i64 0, .int .i64 0, _] Tryd.zeroValue36 Tryd.runUnderlying36 pl_36) ?_
              refine kt_two ?_ ?_
              ·
                refine kl_gk rfl rfl rfl rfl rfl (n_lit (enc := encAirway) [] ([] : List Airway) Tryd.runUnderlying30 Tryd.sizeOf36 Tryd.zeroValue36 (fun a33 => ?_))
                refine ⟨.inl (by (repeat (first | exact Sub.refl _ | exact Sub.nil _ | refine Sub.chunk (by repeat (first | exact Pick.here | apply Pick.there | apply Pick.seg)) (by rfl) ?_ | refine Sub.seg (by repeat (first | exact PickSeg.here | exact PickSeg.all | apply PickSeg.there | apply PickSeg.seg)) ?_ | exact Sub.seg0 (by repeat (first | exact PickSeg.here | exact PickSeg.all | apply PickSeg.there | apply PickSeg.seg)) | apply Sub.assoc))), ?_⟩
                refine kt_two ?_ ?_
                ·
                  refine kl_gk rfl rfl rfl rfl rfl (n_app (enc := encAirway) ok_encAirway hz34 Tryd.underlying30 Tryd.type36 (by decide) (fun a35 c36 => ?_))
                  refine ⟨.inl (by (repeat (first | exact Sub.refl _ | exact Sub.nil _ | refine Sub.chunk (by repeat (first | exact Pick.here | apply Pick.there | apply Pick.seg)) (by rfl) ?_ | refine Sub.seg (by repeat (first | exact PickSeg.here | exact PickSeg.all | apply PickSeg.there | apply PickSeg.seg)) ?_ | exact Sub.seg0 (by repeat (first | exact PickSeg.here | exact PickSeg.all | apply PickSeg.there | apply PickSeg.seg)) | apply Sub.assoc))), ?_⟩
                  refine kt_one ?_
                  refine kl_gk rfl rfl rfl rfl rfl (n_lit (enc := encAirway) [_] ([(⟨0, 0, 1⟩ : Airway)] : List Airway) Tryd.runUnderlying30 Tryd.sizeOf36 Tryd.zeroValue36 (fun a37 => ?_))
                  refine ⟨.inl (by (repeat (first | exact Sub.refl _ | exact Sub.nil _ | refine Sub.chunk (by repeat (first | exact Pick.here | apply Pick.there | apply Pick.seg)) (by rfl) ?_ | refine Sub.seg (by repeat (first | exact PickSeg.here | exact PickSeg.all | apply PickSeg.there | apply PickSeg.seg)) ?_ | exact Sub.seg0 (by repeat (first | exact PickSeg.here | exact PickSeg.all | apply PickSeg.there | apply PickSeg.seg)) | apply Sub.assoc))), ?_⟩
                  refine kt_one ?_
                  refine kl_gk rfl rfl rfl rfl rfl (n_app (enc := encAirway) ok_encAirway hz38 Tryd.underlying30 Tryd.type36 (by decide) (fun a39 c40 => ?_))
                  refine ⟨.inl (by (repeat (first | exact Sub.refl _ | exact Sub.nil _ | refine Sub.chunk (by repeat (first | exact Pick.here | apply Pick.there | apply Pick.seg)) (by rfl) ?_ | refine Sub.seg (by repeat (first | exact PickSeg.here | exact PickSeg.all | apply PickSeg.there | apply PickSeg.seg)) ?_ | exact Sub.seg0 (by repeat (first | exact PickSeg.here | exact PickSeg.all | apply PickSeg.there | apply PickSeg.seg)) | apply Sub.assoc))), ?_⟩
                  refine kt_gv rfl rfl rfl rfl rfl (v_bd [(0, _), (1, _)] [_, _] Tryd.zeroValue32 Tryd.runUnderlying32 pl_32) ?_
                  refine kt_one ?_
                  refine kl_gk rfl rfl rfl rfl rfl (n_call Tryd.call20 (w_impl_MineValid a39 (((([] : List Airway) ++ v4.aw) ++ ([(⟨0, 0, 1⟩ : Airway)] : List Airway)).length) c40 hv41) ?_)
                  rintro _ _ ⟨rfl, rfl⟩
                  refine ⟨.inl (by (repeat (first | exact Sub.refl _ | exact Sub.nil _ | refine Sub.chunk (by repeat (first | exact Pick.here | apply Pick.there | apply Pick.seg)) (by rfl) ?_ | refine Sub.seg (by repeat (first | exact PickSeg.here | exact PickSeg.all | apply PickSeg.there | apply PickSeg.seg)) ?_ | exact Sub.seg0 (by repeat (first | exact PickSeg.here | exact PickSeg.all | apply PickSeg.there | apply PickSeg.seg)) | apply Sub.assoc))), ?_⟩
                  refine kt_gv rfl rfl rfl rfl rfl (v_not) ?_
                  refine kt_d rfl rfl rfl (v_pt rfl) ?_
                  refine kt_d rfl rfl rfl (v_mv) ?_
                  refine kt_one ?_
                  refine kl_skip rfl rfl rfl rfl hb44 (by (repeat (first | exact Sub.refl _ | exact Sub.nil _ | refine Sub.chunk (by repeat (first | exact Pick.here | apply Pick.there | apply Pick.seg)) (by rfl) ?_ | refine Sub.seg (by repeat (first | exact PickSeg.here | exact PickSeg.all | apply PickSeg.there | apply PickSeg.seg)) ?_ | exact Sub.seg0 (by repeat (first | exact PickSeg.here | exact PickSeg.all | apply PickSeg.there | apply PickSeg.seg)) | apply Sub.assoc))) ?_
                  refine kt_d rfl rfl rfl (v_pf hb44) ?_
                  refine kt_d rfl rfl rfl (v_as) ?_
                  refine kt_nil ?_
                  refine kn_then ?_
                  exact ⟨(), hd_mk trivial⟩
                ·
                  refine kl_gk rfl rfl rfl rfl rfl (n_lit (enc := encAirway) [_] ([(⟨0, 0, 1⟩ : Airway)] : List Airway) Tryd.runUnderlying30 Tryd.sizeOf36 Tryd.zeroValue36 (fun a37 => ?_))
                  refine ⟨.inl (by (repeat (first | exact Sub.refl _ | exact Sub.nil _ | refine Sub.chunk (by repeat (first | exact Pick.here | apply Pick.there | apply Pick.seg)) (by rfl) ?_ | refine Sub.seg (by repeat (first | exact PickSeg.here | exact PickSeg.all | apply PickSeg.there | apply PickSeg.seg)) ?_ | exact Sub.seg0 (by repeat (first | exact PickSeg.here | exact PickSeg.all | apply PickSeg.there | apply PickSeg.seg)) | apply Sub.assoc))), ?_⟩
                  refine kt_one ?_
                  refine kl_gk rfl rfl rfl rfl rfl (n_app (enc := encAirway) ok_encAirway hz34 Tryd.underlying30 Tryd.type36 (by decide) (fun a35 c36 => ?_))
                  refine ⟨.inl (by (repeat (first | exact Sub.refl _ | exact Sub.nil _ | refine Sub.chunk (by repeat (first | exact Pick.here | apply Pick.there | apply Pick.seg)) (by rfl) ?_ | refine Sub.seg (by repeat (first | exact PickSeg.here | exact PickSeg.all | apply PickSeg.there | apply PickSeg.seg)) ?_ | exact Sub.seg0 (by repeat (first | exact PickSeg.here | exact PickSeg.all | apply PickSeg.there | apply PickSeg.seg)) | apply Sub.assoc))), ?_⟩
                  refine kt_one ?_
                  refine kl_gk rfl rfl rfl rfl rfl (n_app (enc := encAirway) ok_encAirway hz38 Tryd.underlying30 Tryd.type36 (by decide) (fun a39 c40 => ?_))
                  refine ⟨.inl (by (repeat (first | exact Sub.refl _ | exact Sub.nil _ | refine Sub.chunk (by repeat (first | exact Pick.here | apply Pick.there | apply Pick.seg)) (by rfl) ?_ | refine Sub.seg (by repeat (first | exact PickSeg.here | exact PickSeg.all | apply PickSeg.there | apply PickSeg.seg)) ?_ | exact Sub.seg0 (by repeat (first | exact PickSeg.here | exact PickSeg.all | apply PickSeg.there | apply PickSeg.seg)) | apply Sub.assoc))), ?_⟩
                  refine kt_gv rfl rfl rfl rfl rfl (v_bd [(0, _), (1, _)] [_, _] Tryd.zeroValue32 Tryd.runUnderlying32 pl_32) ?_
                  refine kt_one ?_
                  refine kl_gk rfl rfl rfl rfl rfl (n_call Tryd.call20 (w_impl_MineValid a39 (((([] : List Airway) ++ v4.aw) ++ ([(⟨0, 0, 1⟩ : Airway)] : List Airway)).length) c40 hv41) ?_)
                  rintro _ _ ⟨rfl, rfl⟩
                  refine ⟨.inl (by (repeat (first | exact Sub.refl _ | exact Sub.nil _ | refine Sub.chunk (by repeat (first | exact Pick.here | apply Pick.there | apply Pick.seg)) (by rfl) ?_ | refine Sub.seg (by repeat (first | exact PickSeg.here | exact PickSeg.all | apply PickSeg.there | apply PickSeg.seg)) ?_ | exact Sub.seg0 (by repeat (first | exact PickSeg.here | exact PickSeg.all | apply PickSeg.there | apply PickSeg.seg)) | apply Sub.assoc))), ?_⟩
                  refine kt_gv rfl rfl rfl rfl rfl (v_not) ?_
                  refine kt_d rfl rfl rfl (v_pt rfl) ?_
                  refine kt_d rfl rfl rfl (v_mv) ?_
                  refine kt_one ?_
                  refine kl_skip rfl rfl rfl rfl hb44 (by (repeat (first | exact Sub.refl _ | exact Sub.nil _ | refine Sub.chunk (by repeat (first | exact Pick.here | apply Pick.there | apply Pick.seg)) (by rfl) ?_ | refine Sub.seg (by repeat (first | exact PickSeg.here | exact PickSeg.all | apply PickSeg.there | apply PickSeg.seg)) ?_ | exact Sub.seg0 (by repeat (first | exact PickSeg.here | exact PickSeg.all | apply PickSeg.there | apply PickSeg.seg)) | apply Sub.assoc))) ?_
                  refine kt_d rfl rfl rfl (v_pf hb44) ?_
                  refine kt_d rfl rfl rfl (v_as) ?_
                  refine kt_nil ?_
                  refine kn_then ?_
                  exact ⟨(), hd_mk trivial⟩
              ·
                refine kl_gk rfl rfl rfl rfl rfl (n_lit (enc := encAirway) [_] ([(⟨0, 0, 1⟩ : Airway)] : List Airway) Tryd.runUnderlying30 Tryd.sizeOf36 Tryd.zeroValue36 (fun a37 => ?_))
                refine ⟨.inl (by (repeat (first | exact Sub.refl _ | exact Sub.nil _ | refine Sub.chunk (by repeat (first | exact Pick.here | apply Pick.there | apply Pick.seg)) (by rfl) ?_ | refine Sub.seg (by repeat (first | exact PickSeg.here | exact PickSeg.all | apply PickSeg.there | apply PickSeg.seg)) ?_ | exact Sub.seg0 (by repeat (first | exact PickSeg.here | exact PickSeg.all | apply PickSeg.there | apply PickSeg.seg)) | apply Sub.assoc))), ?_⟩
                refine kt_one ?_
                refine kl_gk rfl rfl rfl rfl rfl (n_lit (enc := encAirway) [] ([] : List Airway) Tryd.runUnderlying30 Tryd.sizeOf36 Tryd.zeroValue36 (fun a33 => ?_))
                refine ⟨.inl (by (repeat (first | exact Sub.refl _ | exact Sub.nil _ | refine Sub.chunk (by repeat (first | exact Pick.here | apply Pick.there | apply Pick.seg)) (by rfl) ?_ | refine Sub.seg (by repeat (first | exact PickSeg.here | exact PickSeg.all | apply PickSeg.there | apply PickSeg.seg)) ?_ | exact Sub.seg0 (by repeat (first | exact PickSeg.here | exact PickSeg.all | apply PickSeg.there | apply PickSeg.seg)) | apply Sub.assoc))), ?_⟩
                refine kt_one ?_
                refine kl_gk rfl rfl rfl rfl rfl (n_app (enc := encAirway) ok_encAirway hz34 Tryd.underlying30 Tryd.type36 (by decide) (fun a35 c36 => ?_))
                refine ⟨.inl (by (repeat (first | exact Sub.refl _ | exact Sub.nil _ | refine Sub.chunk (by repeat (first | exact Pick.here | apply Pick.there | apply Pick.seg)) (by rfl) ?_ | refine Sub.seg (by repeat (first | exact PickSeg.here | exact PickSeg.all | apply PickSeg.there | apply PickSeg.seg)) ?_ | exact Sub.seg0 (by repeat (first | exact PickSeg.here | exact PickSeg.all | apply PickSeg.there | apply PickSeg.seg)) | apply Sub.assoc))), ?_⟩
                refine kt_one ?_
                refine kl_gk rfl rfl rfl rfl rfl (n_app (enc := encAirway) ok_encAirway hz38 Tryd.underlying30 Tryd.type36 (by decide) (fun a39 c40 => ?_))
                refine ⟨.inl (by (repeat (first | exact Sub.refl _ | exact Sub.nil _ | refine Sub.chunk (by repeat (first | exact Pick.here | apply Pick.there | apply Pick.seg)) (by rfl) ?_ | refine Sub.seg (by repeat (first | exact PickSeg.here | exact PickSeg.all | apply PickSeg.there | apply PickSeg.seg)) ?_ | exact Sub.seg0 (by repeat (first | exact PickSeg.here | exact PickSeg.all | apply PickSeg.there | apply PickSeg.seg)) | apply Sub.assoc))), ?_⟩
                refine kt_gv rfl rfl rfl rfl rfl (v_bd [(0, _), (1, _)] [_, _] Tryd.zeroValue32 Tryd.runUnderlying32 pl_32) ?_
                refine kt_one ?_
                refine kl_gk rfl rfl rfl rfl rfl (n_call Tryd.call20 (w_impl_MineValid a39 (((([] : List Airway) ++ v4.aw) ++ ([(⟨0, 0, 1⟩ : Airway)] : List Airway)).length) c40 hv41) ?_)
                rintro _ _ ⟨rfl, rfl⟩
                refine ⟨.inl (by (repeat (first | exact Sub.refl _ | exact Sub.nil _ | refine Sub.chunk (by repeat (first | exact Pick.here | apply Pick.there | apply Pick.seg)) (by rfl) ?_ | refine Sub.seg (by repeat (first | exact PickSeg.here | exact PickSeg.all | apply PickSeg.there | apply PickSeg.seg)) ?_ | exact Sub.seg0 (by repeat (first | exact PickSeg.here | exact PickSeg.all | apply PickSeg.there | apply PickSeg.seg)) | apply Sub.assoc))), ?_⟩
                refine kt_gv rfl rfl rfl rfl rfl (v_not) ?_
                refine kt_d rfl rfl rfl (v_pt rfl) ?_
                refine kt_d rfl rfl rfl (v_mv) ?_
                refine kt_one ?_
                refine kl_skip rfl rfl rfl rfl hb44 (by (repeat (first | exact Sub.refl _ | exact Sub.nil _ | refine Sub.chunk (by repeat (first | exact Pick.here | apply Pick.there | apply Pick.seg)) (by rfl) ?_ | refine Sub.seg (by repeat (first | exact PickSeg.here | exact PickSeg.all | apply PickSeg.there | apply PickSeg.seg)) ?_ | exact Sub.seg0 (by repeat (first | exact PickSeg.here | exact PickSeg.all | apply PickSeg.there | apply PickSeg.seg)) | apply Sub.assoc))) ?_
                refine kt_d rfl rfl rfl (v_pf hb44) ?_
                refine kt_d rfl rfl rfl (v_as) ?_
                refine kt_nil ?_
                refine kn_then ?_
                exact ⟨(), hd_mk trivial⟩
            · intro y49 _
              refine kn_then ?_
              refine kwp_ret ?_
              obtain rfl := e_some h
              refine r1 [] ?_
              exact ⟨rfl, rfl⟩
        ·
          replace h := e_f h hb32
          obtain ⟨j50, j51, ej50, ej51, oj50, oj51, h⟩ := e_cut h
          obtain ⟨v53, hv52, h⟩ := e_bind h
          refine sp v53 (fun hb55 => ?_) (fun hb55 => ?_)
          ·
            replace h := e_t h hb55
            obtain ⟨hz57, h⟩ := e_need h
            obtain ⟨hz61, h⟩ := e_need h
            obtain ⟨v65, hv64, h⟩ := e_bind h
            refine sp (!v65) (fun hb67 => ?_) (fun hb67 => ?_)
            ·
              replace h := e_t h hb67
              obtain ⟨v69, hv68, h⟩ := e_bind h
              refine kwp_cutS (inv := [(2, .bool v69)]) (fun (y : Unit) => []) (fun (y : Unit) => []) (fun (y : Unit) => True) ?_ ?_
              ·
                refine kwp_tree (.quiet 0 (.quiet 1 (.quiet 2 (.quiet 3 (.quiet 4 (.quiet 5 (.quiet 6 (.quiet 7 (.quiet 8 (.quiet 9 (.quiet 10 (.quiet 11 (.quiet 12 (.quiet 13 (.quiet 14 (.one 15 (.quiet 16 (.quiet 17 (.quiet 18 (.quiet 19 (.quiet 21 (.quiet 22 (.quiet 24 (.two 20 (.two 23 (.one 25 (.one 26 (.quiet 27 (.one 28 (.quiet 29 (.quiet 30 (.quiet 31 (.one 32 (.quiet 33 (.quiet 34 .stop)))))))))) 25 (.one 23 (.one 26 (.quiet 27 (.one 28 (.quiet 29 (.quiet 30 (.quiet 31 (.one 32 (.quiet 33 (.quiet 34 .stop))))))))))) 25 (.one 20 (.one 23 (.one 26 (.quiet 27 (.one 28 (.quiet 29 (.quiet 30 (.quiet 31 (.one 32 (.quiet 33 (.quiet 34 .stop))))))))))))))))))))))))))))))))))) [] [⟨.slice q51a v4.aw.length q51c, 3, v4.aw.map encAirway⟩, ⟨.pointer (some p3_6), 2, [[.int .i64 v4.p, .slice q51a v4.aw.length q51c]]⟩] drawMixed (by kernel_rfl) nopan (by (repeat (first | exact Sub.refl _ | exact Sub.nil _ | refine Sub.chunk (by repeat (first | exact Pick.here | apply Pick.there | apply Pick.seg)) (by rfl) ?_ | refine Sub.seg (by repeat (first | exact PickSeg.here | exact PickSeg.all | apply PickSeg.there | apply PickSeg.seg)) ?_ | exact Sub.seg0 (by repeat (first | exact PickSeg.here | exact PickSeg.all | apply PickSeg.there | apply PickSeg.seg)) | apply Sub.assoc))) ?_
                refine kt_d rfl rfl rfl (v_mv) ?_
                refine kt_d rfl rfl rfl (v_not) ?_
                refine kt_d rfl rfl rfl (v_mv) ?_
                refine kt_gv rfl rfl rfl rfl hb14 (v_fb fa_32_1) ?_
                refine kt_gv rfl rfl rfl rfl hb14 (v_ldb Tryd.isAgg30) ?_
                refine kt_gv rfl rfl rfl rfl hb14 (v_len Tryd.runUnderlying30) ?_
                refine kt_gv rfl rfl rfl rfl hb14 (v_cmp) ?_
                refine kt_d rfl rfl rfl (v_pf hb14) ?_
                refine kt_d rfl rfl rfl (v_mv) ?_
                refine kt_gv rfl rfl rfl rfl hb32 (v_fb fa_32_0) ?_
                refine kt_gv rfl rfl rfl rfl hb32 (v_ldb Tryd.isAgg3) ?_
                refine kt_gv rfl rfl rfl rfl hb32 (v_fb fa_32_1) ?_
                refine kt_gv rfl rfl rfl rfl hb32 (v_ldb Tryd.isAgg30) ?_
                refine kt_gv rfl rfl rfl rfl hb32 (v_sl (l := j50) (h := j51) oj50 oj51 Tryd.runUnderlying30 Tryd.sizeOf36 (hlo := by exact ⟨_, _, rfl, ej50⟩) (hhi := by show _ = _; omega)) ?_
                refine kt_gv rfl rfl rfl rfl hb32 (v_bd [(0, _), (1, _)] [_, _] Tryd.zeroValue32 Tryd.runUnderlying32 pl_32) ?_
                refine kt_one ?_
                refine kl_gk rfl rfl rfl rfl hb32 (n_call Tryd.call20 (w_impl_MineValid (subA q51a q51c 3 j50) (j51 - j50) (q51c - j50) hv52) ?_ (hv := (Views.cons (by repeat (first | exact mh | apply mt | apply mas | apply ms)) (view_cut (c := q51c) oj50 oj51) (Views.nil _))))
                rintro _ _ ⟨rfl, rfl⟩
                refine ⟨.inl (by (repeat (first | exact Sub.refl _ | exact Sub.nil _ | refine Sub.chunk (by repeat (first | exact Pick.here | apply Pick.there | apply Pick.seg)) (by rfl) ?_ | refine Sub.seg (by repeat (first | exact PickSeg.here | exact PickSeg.all | apply PickSeg.there | apply PickSeg.seg)) ?_ | exact Sub.seg0 (by repeat (first | exact PickSeg.here | exact PickSeg.all | apply PickSeg.there | apply PickSeg.seg)) | apply Sub.assoc))), ?_⟩
                refine kt_d rfl rfl rfl (v_pf hb32) ?_
                refine kt_d rfl rfl rfl (v_mv) ?_
                refine kt_gv rfl rfl rfl rfl hb55 (v_fb fa_32_0) ?_
                refine kt_gv rfl rfl rfl rfl hb55 (v_ldb Tryd.isAgg3) ?_
                refine kt_gv rfl rfl rfl rfl hb55 (v_fb fa_32_1) ?_
                refine kt_gv rfl rfl rfl rfl hb55 (v_ldb Tryd.isAgg30) ?_
                refine kt_gv rfl rfl rfl rfl hb55 (v_bd [(2, _)] [.int .i64 0, .int .i64 0, _] Tryd.zeroValue36 Tryd.runUnderlying36 pl_36) ?_
                refine kt_two ?_ ?_
                ·
                  refine kl_gk rfl rfl rfl rfl hb55 (n_lit (enc := encAirway) [] ([] : List Airway) Tryd.runUnderlying30 Tryd.sizeOf36 Tryd.zeroValue36 (fun a56 => ?_))
                  refine ⟨.inl (by (repeat (first | exact Sub.refl _ | exact Sub.nil _ | refine Sub.chunk (by repeat (first | exact Pick.here | apply Pick.there | apply Pick.seg)) (by rfl) ?_ | refine Sub.seg (by repeat (first | exact PickSeg.here | exact PickSeg.all | apply PickSeg.there | apply PickSeg.seg)) ?_ | exact Sub.seg0 (by repeat (first | exact PickSeg.here | exact PickSeg.all | apply PickSeg.there | apply PickSeg.seg)) | apply Sub.assoc))), ?_⟩
                  refine kt_two ?_ ?_
                  ·
                    refine kl_gk rfl rfl rfl rfl hb55 (n_app (enc := encAirway) ok_encAirway hz57 Tryd.underlying30 Tryd.type36 (by decide) (fun a58 c59 => ?_))
                    refine ⟨.inl (by (repeat (first | exact Sub.refl _ | exact Sub.nil _ | refine Sub.chunk (by repeat (first | exact Pick.here | apply Pick.there | apply Pick.seg)) (by rfl) ?_ | refine Sub.seg (by repeat (first | exact PickSeg.here | exact PickSeg.all | apply PickSeg.there | apply PickSeg.seg)) ?_ | exact Sub.seg0 (by repeat (first | exact PickSeg.here | exact PickSeg.all | apply PickSeg.there | apply PickSeg.seg)) | apply Sub.assoc))), ?_⟩
                    refine kt_one ?_
                    refine kl_gk rfl rfl rfl rfl hb55 (n_lit (enc := encAirway) [_] ([(⟨0, 0, 1⟩ : Airway)] : List Airway) Tryd.runUnderlying30 Tryd.sizeOf36 Tryd.zeroValue36 (fun a60 => ?_))
                    refine ⟨.inl (by (repeat (first | exact Sub.refl _ | exact Sub.nil _ | refine Sub.chunk (by repeat (first | exact Pick.here | apply Pick.there | apply Pick.seg)) (by rfl) ?_ | refine Sub.seg (by repeat (first | exact PickSeg.here | exact PickSeg.all | apply PickSeg.there | apply PickSeg.seg)) ?_ | exact Sub.seg0 (by repeat (first | exact PickSeg.here | exact PickSeg.all | apply PickSeg.there | apply PickSeg.seg)) | apply Sub.assoc))), ?_⟩
                    refine kt_one ?_
                    refine kl_gk rfl rfl rfl rfl hb55 (n_app (enc := encAirway) ok_encAirway hz61 Tryd.underlying30 Tryd.type36 (by decide) (fun a62 c63 => ?_))
                    refine ⟨.inl (by (repeat (first | exact Sub.refl _ | exact Sub.nil _ | refine Sub.chunk (by repeat (first | exact Pick.here | apply Pick.there | apply Pick.seg)) (by rfl) ?_ | refine Sub.seg (by repeat (first | exact PickSeg.here | exact PickSeg.all | apply PickSeg.there | apply PickSeg.seg)) ?_ | exact Sub.seg0 (by repeat (first | exact PickSeg.here | exact PickSeg.all | apply PickSeg.there | apply PickSeg.seg)) | apply Sub.assoc))), ?_⟩
                    refine kt_gv rfl rfl rfl rfl hb55 (v_bd [(0, _), (1, _)] [_, _] Tryd.zeroValue32 Tryd.runUnderlying32 pl_32) ?_
                    refine kt_one ?_
                    refine kl_gk rfl rfl rfl rfl hb55 (n_call Tryd.call20 (w_impl_MineValid a62 (((([] : List Airway) ++ v4.aw) ++ ([(⟨0, 0, 1⟩ : Airway)] : List Airway)).length) c63 hv64) ?_)
                    rintro _ _ ⟨rfl, rfl⟩
                    refine ⟨.inl (by (repeat (first | exact Sub.refl _ | exact Sub.nil _ | refine Sub.chunk (by repeat (first | exact Pick.here | apply Pick.there | apply Pick.seg)) (by rfl) ?_ | refine Sub.seg (by repeat (first | exact PickSeg.here | exact PickSeg.all | apply PickSeg.there | apply PickSeg.seg)) ?_ | exact Sub.seg0 (by repeat (first | exact PickSeg.here | exact PickSeg.all | apply PickSeg.there | apply PickSeg.seg)) | apply Sub.assoc))), ?_⟩
                    refine kt_gv rfl rfl rfl rfl hb55 (v_not) ?_
                    refine kt_d rfl rfl rfl (v_pt hb55) ?_
                    refine kt_d rfl rfl rfl (v_mv) ?_
                    refine kt_one ?_
                    refine kl_gk rfl rfl rfl rfl hb67 (n_call Tryd.call18 (w_laws_alive hv68) ?_)
                    rintro _ _ ⟨rfl, rfl⟩
                    refine ⟨.inl (by (repeat (first | exact Sub.refl _ | exact Sub.nil _ | refine Sub.chunk (by repeat (first | exact Pick.here | apply Pick.there | apply Pick.seg)) (by rfl) ?_ | refine Sub.seg (by repeat (first | exact PickSeg.here | exact PickSeg.all | apply PickSeg.there | apply PickSeg.seg)) ?_ | exact Sub.seg0 (by repeat (first | exact PickSeg.here | exact PickSeg.all | apply PickSeg.there | apply PickSeg.seg)) | apply Sub.assoc))), ?_⟩
                    refine kt_d rfl rfl rfl (v_pt hb67) ?_
                    refine kt_d rfl rfl rfl (v_as) ?_
                    refine kt_nil ?_
                    refine kn_then ?_
                    exact ⟨(), hd_mk trivial⟩
                  ·
                    refine kl_gk rfl rfl rfl rfl hb55 (n_lit (enc := encAirway) [_] ([(⟨0, 0, 1⟩ : Airway)] : List Airway) Tryd.runUnderlying30 Tryd.sizeOf36 Tryd.zeroValue36 (fun a60 => ?_))
                    refine ⟨.inl (by (repeat (first | exact Sub.refl _ | exact Sub.nil _ | refine Sub.chunk (by repeat (first | exact Pick.here | apply Pick.there | apply Pick.seg)) (by rfl) ?_ | refine Sub.seg (by repeat (first | exact PickSeg.here | exact PickSeg.all | apply PickSeg.there | apply PickSeg.seg)) ?_ | exact Sub.seg0 (by repeat (first | exact PickSeg.here | exact PickSeg.all | apply PickSeg.there | apply PickSeg.seg)) | apply Sub.assoc))), ?_⟩
                    refine kt_one ?_
                    refine kl_gk rfl rfl rfl rfl hb55 (n_app (enc := encAirway) ok_encAirway hz57 Tryd.underlying30 Tryd.type36 (by decide) (fun a58 c59 => ?_))
                    refine ⟨.inl (by (repeat (first | exact Sub.refl _ | exact Sub.nil _ | refine Sub.chunk (by repeat (first | exact Pick.here | apply Pick.there | apply Pick.seg)) (by rfl) ?_ | refine Sub.seg (by repeat (first | exact PickSeg.here | exact PickSeg.all | apply PickSeg.there | apply PickSeg.seg)) ?_ | exact Sub.seg0 (by repeat (first | exact PickSeg.here | exact PickSeg.all | apply PickSeg.there | apply PickSeg.seg)) | apply Sub.assoc))), ?_⟩
                    refine kt_one ?_
                    refine kl_gk rfl rfl rfl rfl hb55 (n_app (enc := encAirway) ok_encAirway hz61 Tryd.underlying30 Tryd.type36 (by decide) (fun a62 c63 => ?_))
                    refine ⟨.inl (by (repeat (first | exact Sub.refl _ | exact Sub.nil _ | refine Sub.chunk (by repeat (first | exact Pick.here | apply Pick.there | apply Pick.seg)) (by rfl) ?_ | refine Sub.seg (by repeat (first | exact PickSeg.here | exact PickSeg.all | apply PickSeg.there | apply PickSeg.seg)) ?_ | exact Sub.seg0 (by repeat (first | exact PickSeg.here | exact PickSeg.all | apply PickSeg.there | apply PickSeg.seg)) | apply Sub.assoc))), ?_⟩
                    refine kt_gv rfl rfl rfl rfl hb55 (v_bd [(0, _), (1, _)] [_, _] Tryd.zeroValue32 Tryd.runUnderlying32 pl_32) ?_
                    refine kt_one ?_
                    refine kl_gk rfl rfl rfl rfl hb55 (n_call Tryd.call20 (w_impl_MineValid a62 (((([] : List Airway) ++ v4.aw) ++ ([(⟨0, 0, 1⟩ : Airway)] : List Airway)).length) c63 hv64) ?_)
                    rintro _ _ ⟨rfl, rfl⟩
                    refine ⟨.inl (by (repeat (first | exact Sub.refl _ | exact Sub.nil _ | refine Sub.chunk (by repeat (first | exact Pick.here | apply Pick.there | apply Pick.seg)) (by rfl) ?_ | refine Sub.seg (by repeat (first | exact PickSeg.here | exact PickSeg.all | apply PickSeg.there | apply PickSeg.seg)) ?_ | exact Sub.seg0 (by repeat (first | exact PickSeg.here | exact PickSeg.all | apply PickSeg.there | apply PickSeg.seg)) | apply Sub.assoc))), ?_⟩
                    refine kt_gv rfl rfl rfl rfl hb55 (v_not) ?_
                    refine kt_d rfl rfl rfl (v_pt hb55) ?_
                    refine kt_d rfl rfl rfl (v_mv) ?_
                    refine kt_one ?_
                    refine kl_gk rfl rfl rfl rfl hb67 (n_call Tryd.call18 (w_laws_alive hv68) ?_)
                    rintro _ _ ⟨rfl, rfl⟩
                    refine ⟨.inl (by (repeat (first | exact Sub.refl _ | exact Sub.nil _ | refine Sub.chunk (by repeat (first | exact Pick.here | apply Pick.there | apply Pick.seg)) (by rfl) ?_ | refine Sub.seg (by repeat (first | exact PickSeg.here | exact PickSeg.all | apply PickSeg.there | apply PickSeg.seg)) ?_ | exact Sub.seg0 (by repeat (first | exact PickSeg.here | exact PickSeg.all | apply PickSeg.there | apply PickSeg.seg)) | apply Sub.assoc))), ?_⟩
                    refine kt_d rfl rfl rfl (v_pt hb67) ?_
                    refine kt_d rfl rfl rfl (v_as) ?_
                    refine kt_nil ?_
                    refine kn_then ?_
                    exact ⟨(), hd_mk trivial⟩
                ·
                  refine kl_gk rfl rfl rfl rfl hb55 (n_lit (enc := encAirway) [_] ([(⟨0, 0, 1⟩ : Airway)] : List Airway) Tryd.runUnderlying30 Tryd.sizeOf36 Tryd.zeroValue36 (fun a60 => ?_))
                  refine ⟨.inl (by (repeat (first | exact Sub.refl _ | exact Sub.nil _ | refine Sub.chunk (by repeat (first | exact Pick.here | apply Pick.there | apply Pick.seg)) (by rfl) ?_ | refine Sub.seg (by repeat (first | exact PickSeg.here | exact PickSeg.all | apply PickSeg.there | apply PickSeg.seg)) ?_ | exact Sub.seg0 (by repeat (first | exact PickSeg.here | exact PickSeg.all | apply PickSeg.there | apply PickSeg.seg)) | apply Sub.assoc))), ?_⟩
                  refine kt_one ?_
                  refine kl_gk rfl rfl rfl rfl hb55 (n_lit (enc := encAirway) [] ([] : List Airway) Tryd.runUnderlying30 Tryd.sizeOf36 Tryd.zeroValue36 (fun a56 => ?_))
                  refine ⟨.inl (by (repeat (first | exact Sub.refl _ | exact Sub.nil _ | refine Sub.chunk (by repeat (first | exact Pick.here | apply Pick.there | apply Pick.seg)) (by rfl) ?_ | refine Sub.seg (by repeat (first | exact PickSeg.here | exact PickSeg.all | apply PickSeg.there | apply PickSeg.seg)) ?_ | exact Sub.seg0 (by repeat (first | exact PickSeg.here | exact PickSeg.all | apply PickSeg.there | apply PickSeg.seg)) | apply Sub.assoc))), ?_⟩
                  refine kt_one ?_
                  refine kl_gk rfl rfl rfl rfl hb55 (n_app (enc := encAirway) ok_encAirway hz57 Tryd.underlying30 Tryd.type36 (by decide) (fun a58 c59 => ?_))
                  refine ⟨.inl (by (repeat (first | exact Sub.refl _ | exact Sub.nil _ | refine Sub.chunk (by repeat (first | exact Pick.here | apply Pick.there | apply Pick.seg)) (by rfl) ?_ | refine Sub.seg (by repeat (first | exact PickSeg.here | exact PickSeg.all | apply PickSeg.there | apply PickSeg.seg)) ?_ | exact Sub.seg0 (by repeat (first | exact PickSeg.here | exact PickSeg.all | apply PickSeg.there | apply PickSeg.seg)) | apply Sub.assoc))), ?_⟩
                  refine kt_one ?_
                  refine kl_gk rfl rfl rfl rfl hb55 (n_app (enc := encAirway) ok_encAirway hz61 Tryd.underlying30 Tryd.type36 (by decide) (fun a62 c63 => ?_))
                  refine ⟨.inl (by (repeat (first | exact Sub.refl _ | exact Sub.nil _ | refine Sub.chunk (by repeat (first | exact Pick.here | apply Pick.there | apply Pick.seg)) (by rfl) ?_ | refine Sub.seg (by repeat (first | exact PickSeg.here | exact PickSeg.all | apply PickSeg.there | apply PickSeg.seg)) ?_ | exact Sub.seg0 (by repeat (first | exact PickSeg.here | exact PickSeg.all | apply PickSeg.there | apply PickSeg.seg)) | apply Sub.assoc))), ?_⟩
                  refine kt_gv rfl rfl rfl rfl hb55 (v_bd [(0, _), (1, _)] [_, _] Tryd.zeroValue32 Tryd.runUnderlying32 pl_32) ?_
                  refine kt_one ?_
                  refine kl_gk rfl rfl rfl rfl hb55 (n_call Tryd.call20 (w_impl_MineValid a62 (((([] : List Airway) ++ v4.aw) ++ ([(⟨0, 0, 1⟩ : Airway)] : List Airway)).length) c63 hv64) ?_)
                  rintro _ _ ⟨rfl, rfl⟩
                  refine ⟨.inl (by (repeat (first | exact Sub.refl _ | exact Sub.nil _ | refine Sub.chunk (by repeat (first | exact Pick.here | apply Pick.there | apply Pick.seg)) (by rfl) ?_ | refine Sub.seg (by repeat (first | exact PickSeg.here | exact PickSeg.all | apply PickSeg.there | apply PickSeg.seg)) ?_ | exact Sub.seg0 (by repeat (first | exact PickSeg.here | exact PickSeg.all | apply PickSeg.there | apply PickSeg.seg)) | apply Sub.assoc))), ?_⟩
                  refine kt_gv rfl rfl rfl rfl hb55 (v_not) ?_
                  refine kt_d rfl rfl rfl (v_pt hb55) ?_
                  refine kt_d rfl rfl rfl (v_mv) ?_
                  refine kt_one ?_
                  refine kl_gk rfl rfl rfl rfl hb67 (n_call Tryd.call18 (w_laws_alive hv68) ?_)
                  rintro _ _ ⟨rfl, rfl⟩
                  refine ⟨.inl (by (repeat (first | exact Sub.refl _ | exact Sub.nil _ | refine Sub.chunk (by repeat (first | exact Pick.here | apply Pick.there | apply Pick.seg)) (by rfl) ?_ | refine Sub.seg (by repeat (first | exact PickSeg.here | exact PickSeg.all | apply PickSeg.there | apply PickSeg.seg)) ?_ | exact Sub.seg0 (by repeat (first | exact PickSeg.here | exact PickSeg.all | apply PickSeg.there | apply PickSeg.seg)) | apply Sub.assoc))), ?_⟩
                  refine kt_d rfl rfl rfl (v_pt hb67) ?_
                  refine kt_d rfl rfl rfl (v_as) ?_
                  refine kt_nil ?_
                  refine kn_then ?_
                  exact ⟨(), hd_mk trivial⟩
              · intro y71 _
                refine kn_then ?_
                refine kwp_ret ?_
                obtain rfl := e_some h
                refine r1 [] ?_
                exact ⟨rfl, rfl⟩
            ·
              replace h := e_f h hb67
              refine kwp_cutS (inv := [(2, .bool false)]) (fun (y : Unit) => []) (fun (y : Unit) => []) (fun (y : Unit) => True) ?_ ?_
              ·
                refine kwp_tree (.quiet 0 (.quiet 1 (.quiet 2 (.quiet 3 (.quiet 4 (.quiet 5 (.quiet 6 (.quiet 7 (.quiet 8 (.quiet 9 (.quiet 10 (.quiet 11 (.quiet 12 (.quiet 13 (.quiet 14 (.one 15 (.quiet 16 (.quiet 17 (.quiet 18 (.quiet 19 (.quiet 21 (.quiet 22 (.quiet 24 (.two 20 (.two 23 (.one 25 (.one 26 (.quiet 27 (.one 28 (.quiet 29 (.quiet 30 (.quiet 31 (.one 32 (.quiet 33 (.quiet 34 .stop)))))))))) 25 (.one 23 (.one 26 (.quiet 27 (.one 28 (.quiet 29 (.quiet 30 (.quiet 31 (.one 32 (.quiet 33 (.quiet 34 .stop))))))))))) 25 (.one 20 (.one 23 (.one 26 (.quiet 27 (.one 28 (.quiet 29 (.quiet 30 (.quiet 31 (.one 32 (.quiet 33 (.quiet 34 .stop))))))))))))))))))))))))))))))))))) [] [⟨.slice q51a v4.aw.length q51c, 3, v4.aw.map encAirway⟩, ⟨.pointer (some p3_6), 2, [[.int .i64 v4.p, .slice q51a v4.aw.length q51c]]⟩] drawMixed (by kernel_rfl) nopan (by (repeat (first | exact Sub.refl _ | exact Sub.nil _ | refine Sub.chunk (by repeat (first | exact Pick.here | apply Pick.there | apply Pick.seg)) (by rfl) ?_ | refine Sub.seg (by repeat (first | exact PickSeg.here | exact PickSeg.all | apply PickSeg.there | apply PickSeg.seg)) ?_ | exact Sub.seg0 (by repeat (first | exact PickSeg.here | exact PickSeg.all | apply PickSeg.there | apply PickSeg.seg)) | apply Sub.assoc))) ?_
                refine kt_d rfl rfl rfl (v_mv) ?_
                refine kt_d rfl rfl rfl (v_not) ?_
                refine kt_d rfl rfl rfl (v_mv) ?_
                refine kt_gv rfl rfl rfl rfl hb14 (v_fb fa_32_1) ?_
                refine kt_gv rfl rfl rfl rfl hb14 (v_ldb Tryd.isAgg30) ?_
                refine kt_gv rfl rfl rfl rfl hb14 (v_len Tryd.runUnderlying30) ?_
                refine kt_gv rfl rfl rfl rfl hb14 (v_cmp) ?_
                refine kt_d rfl rfl rfl (v_pf hb14) ?_
                refine kt_d rfl rfl rfl (v_mv) ?_
                refine kt_gv rfl rfl rfl rfl hb32 (v_fb fa_32_0) ?_
                refine kt_gv rfl rfl rfl rfl hb32 (v_ldb Tryd.isAgg3) ?_
                refine kt_gv rfl rfl rfl rfl hb32 (v_fb fa_32_1) ?_
                refine kt_gv rfl rfl rfl rfl hb32 (v_ldb Tryd.isAgg30) ?_
                refine kt_gv rfl rfl rfl rfl hb32 (v_sl (l := j50) (h := j51) oj50 oj51 Tryd.runUnderlying30 Tryd.sizeOf36 (hlo := by exact ⟨_, _, rfl, ej50⟩) (hhi := by show _ = _; omega)) ?_
                refine kt_gv rfl rfl rfl rfl hb32 (v_bd [(0, _), (1, _)] [_, _] Tryd.zeroValue32 Tryd.runUnderlying32 pl_32) ?_
                refine kt_one ?_
                refine kl_gk rfl rfl rfl rfl hb32 (n_call Tryd.call20 (w_impl_MineValid (subA q51a q51c 3 j50) (j51 - j50) (q51c - j50) hv52) ?_ (hv := (Views.cons (by repeat (first | exact mh | apply mt | apply mas | apply ms)) (view_cut (c := q51c) oj50 oj51) (Views.nil _))))
                rintro _ _ ⟨rfl, rfl⟩
                refine ⟨.inl (by (repeat (first | exact Sub.refl _ | exact Sub.nil _ | refine Sub.chunk (by repeat (first | exact Pick.here | apply Pick.there | apply Pick.seg)) (by rfl) ?_ | refine Sub.seg (by repeat (first | exact PickSeg.here | exact PickSeg.all | apply PickSeg.there | apply PickSeg.seg)) ?_ | exact Sub.seg0 (by repeat (first | exact PickSeg.here | exact PickSeg.all | apply PickSeg.there | apply PickSeg.seg)) | apply Sub.assoc))), ?_⟩
                refine kt_d rfl rfl rfl (v_pf hb32) ?_
                refine kt_d rfl rfl rfl (v_mv) ?_
                refine kt_gv rfl rfl rfl rfl hb55 (v_fb fa_32_0) ?_
                refine kt_gv rfl rfl rfl rfl hb55 (v_ldb Tryd.isAgg3) ?_
                refine kt_gv rfl rfl rfl rfl hb55 (v_fb fa_32_1) ?_
                refine kt_gv rfl rfl rfl rfl hb55 (v_ldb Tryd.isAgg30) ?_
                refine kt_gv rfl rfl rfl rfl hb55 (v_bd [(2, _)] [.int .i64 0, .int .i64 0, _] Tryd.zeroValue36 Tryd.runUnderlying36 pl_36) ?_
                refine kt_two ?_ ?_
                ·
                  refine kl_gk rfl rfl rfl rfl hb55 (n_lit (enc := encAirway) [] ([] : List Airway) Tryd.runUnderlying30 Tryd.sizeOf36 Tryd.zeroValue36 (fun a56 => ?_))
                  refine ⟨.inl (by (repeat (first | exact Sub.refl _ | exact Sub.nil _ | refine Sub.chunk (by repeat (first | exact Pick.here | apply Pick.there | apply Pick.seg)) (by rfl) ?_ | refine Sub.seg (by repeat (first | exact PickSeg.here | exact PickSeg.all | apply PickSeg.there | apply PickSeg.seg)) ?_ | exact Sub.seg0 (by repeat (first | exact PickSeg.here | exact PickSeg.all | apply PickSeg.there | apply PickSeg.seg)) | apply Sub.assoc))), ?_⟩
                  refine kt_two ?_ ?_
                  ·
                    refine kl_gk rfl rfl rfl rfl hb55 (n_app (enc := encAirway) ok_encAirway hz57 Tryd.underlying30 Tryd.type36 (by decide) (fun a58 c59 => ?_))
                    refine ⟨.inl (by (repeat (first | exact Sub.refl _ | exact Sub.nil _ | refine Sub.chunk (by repeat (first | exact Pick.here | apply Pick.there | apply Pick.seg)) (by rfl) ?_ | refine Sub.seg (by repeat (first | exact PickSeg.here | exact PickSeg.all | apply PickSeg.there | apply PickSeg.seg)) ?_ | exact Sub.seg0 (by repeat (first | exact PickSeg.here | exact PickSeg.all | apply PickSeg.there | apply PickSeg.seg)) | apply Sub.assoc))), ?_⟩
                    refine kt_one ?_
                    refine kl_gk rfl rfl rfl rfl hb55 (n_lit (enc := encAirway) [_] ([(⟨0, 0, 1⟩ : Airway)] : List Airway) Tryd.runUnderlying30 Tryd.sizeOf36 Tryd.zeroValue36 (fun a60 => ?_))
                    refine ⟨.inl (by (repeat (first | exact Sub.refl _ | exact Sub.nil _ | refine Sub.chunk (by repeat (first | exact Pick.here | apply Pick.there | apply Pick.seg)) (by rfl) ?_ | refine Sub.seg (by repeat (first | exact PickSeg.here | exact PickSeg.all | apply PickSeg.there | apply PickSeg.seg)) ?_ | exact Sub.seg0 (by repeat (first | exact PickSeg.here | exact PickSeg.all | apply PickSeg.there | apply PickSeg.seg)) | apply Sub.assoc))), ?_⟩
                    refine kt_one ?_
                    refine kl_gk rfl rfl rfl rfl hb55 (n_app (enc := encAirway) ok_encAirway hz61 Tryd.underlying30 Tryd.type36 (by decide) (fun a62 c63 => ?_))
                    refine ⟨.inl (by (repeat (first | exact Sub.refl _ | exact Sub.nil _ | refine Sub.chunk (by repeat (first | exact Pick.here | apply Pick.there | apply Pick.seg)) (by rfl) ?_ | refine Sub.seg (by repeat (first | exact PickSeg.here | exact PickSeg.all | apply PickSeg.there | apply PickSeg.seg)) ?_ | exact Sub.seg0 (by repeat (first | exact PickSeg.here | exact PickSeg.all | apply PickSeg.there | apply PickSeg.seg)) | apply Sub.assoc))), ?_⟩
                    refine kt_gv rfl rfl rfl rfl hb55 (v_bd [(0, _), (1, _)] [_, _] Tryd.zeroValue32 Tryd.runUnderlying32 pl_32) ?_
                    refine kt_one ?_
                    refine kl_gk rfl rfl rfl rfl hb55 (n_call Tryd.call20 (w_impl_MineValid a62 (((([] : List Airway) ++ v4.aw) ++ ([(⟨0, 0, 1⟩ : Airway)] : List Airway)).length) c63 hv64) ?_)
                    rintro _ _ ⟨rfl, rfl⟩
                    refine ⟨.inl (by (repeat (first | exact Sub.refl _ | exact Sub.nil _ | refine Sub.chunk (by repeat (first | exact Pick.here | apply Pick.there | apply Pick.seg)) (by rfl) ?_ | refine Sub.seg (by repeat (first | exact PickSeg.here | exact PickSeg.all | apply PickSeg.there | apply PickSeg.seg)) ?_ | exact Sub.seg0 (by repeat (first | exact PickSeg.here | exact PickSeg.all | apply PickSeg.there | apply PickSeg.seg)) | apply Sub.assoc))), ?_⟩
                    refine kt_gv rfl rfl rfl rfl hb55 (v_not) ?_
                    refine kt_d rfl rfl rfl (v_pt hb55) ?_
                    refine kt_d rfl rfl rfl (v_mv) ?_
                    refine kt_one ?_
                    refine kl_skip rfl rfl rfl rfl hb67 (by (repeat (first | exact Sub.refl _ | exact Sub.nil _ | refine Sub.chunk (by repeat (first | exact Pick.here | apply Pick.there | apply Pick.seg)) (by rfl) ?_ | refine Sub.seg (by repeat (first | exact PickSeg.here | exact PickSeg.all | apply PickSeg.there | apply PickSeg.seg)) ?_ | exact Sub.seg0 (by repeat (first | exact PickSeg.here | exact PickSeg.all | apply PickSeg.there | apply PickSeg.seg)) | apply Sub.assoc))) ?_
                    refine kt_d rfl rfl rfl (v_pf hb67) ?_
                    refine kt_d rfl rfl rfl (v_as) ?_
                    refine kt_nil ?_
                    refine kn_then ?_
                    exact ⟨(), hd_mk trivial⟩
                  ·
                    refine kl_gk rfl rfl rfl rfl hb55 (n_lit (enc := encAirway) [_] ([(⟨0, 0, 1⟩ : Airway)] : List Airway) Tryd.runUnderlying30 Tryd.sizeOf36 Tryd.zeroValue36 (fun a60 => ?_))
                    refine ⟨.inl (by (repeat (first | exact Sub.refl _ | exact Sub.nil _ | refine Sub.chunk (by repeat (first | exact Pick.here | apply Pick.there | apply Pick.seg)) (by rfl) ?_ | refine Sub.seg (by repeat (first | exact PickSeg.here | exact PickSeg.all | apply PickSeg.there | apply PickSeg.seg)) ?_ | exact Sub.seg0 (by repeat (first | exact PickSeg.here | exact PickSeg.all | apply PickSeg.there | apply PickSeg.seg)) | apply Sub.assoc))), ?_⟩
                    refine kt_one ?_
                    refine kl_gk rfl rfl rfl rfl hb55 (n_app (enc := encAirway) ok_encAirway hz57 Tryd.underlying30 Tryd.type36 (by decide) (fun a58 c59 => ?_))
                    refine ⟨.inl (by (repeat (first | exact Sub.refl _ | exact Sub.nil _ | refine Sub.chunk (by repeat (first | exact Pick.here | apply Pick.there | apply Pick.seg)) (by rfl) ?_ | refine Sub.seg (by repeat (first | exact PickSeg.here | exact PickSeg.all | apply PickSeg.there | apply PickSeg.seg)) ?_ | exact Sub.seg0 (by repeat (first | exact PickSeg.here | exact PickSeg.all | apply PickSeg.there | apply PickSeg.seg)) | apply Sub.assoc))), ?_⟩
                    refine kt_one ?_
                    refine kl_gk rfl rfl rfl rfl hb55 (n_app (enc := encAirway) ok_encAirway hz61 Tryd.underlying30 Tryd.type36 (by decide) (fun a62 c63 => ?_))
                    refine ⟨.inl (by (repeat (first | exact Sub.refl _ | exact Sub.nil _ | refine Sub.chunk (by repeat (first | exact Pick.here | apply Pick.there | apply Pick.seg)) (by rfl) ?_ | refine Sub.seg (by repeat (first | exact PickSeg.here | exact PickSeg.all | apply PickSeg.there | apply PickSeg.seg)) ?_ | exact Sub.seg0 (by repeat (first | exact PickSeg.here | exact PickSeg.all | apply PickSeg.there | apply PickSeg.seg)) | apply Sub.assoc))), ?_⟩
                    refine kt_gv rfl rfl rfl rfl hb55 (v_bd [(0, _), (1, _)] [_, _] Tryd.zeroValue32 Tryd.runUnderlying32 pl_32) ?_
                    refine kt_one ?_
                    refine kl_gk rfl rfl rfl rfl hb55 (n_call Tryd.call20 (w_impl_MineValid a62 (((([] : List Airway) ++ v4.aw) ++ ([(⟨0, 0, 1⟩ : Airway)] : List Airway)).length) c63 hv64) ?_)
                    rintro _ _ ⟨rfl, rfl⟩
                    refine ⟨.inl (by (repeat (first | exact Sub.refl _ | exact Sub.nil _ | refine Sub.chunk (by repeat (first | exact Pick.here | apply Pick.there | apply Pick.seg)) (by rfl) ?_ | refine Sub.seg (by repeat (first | exact PickSeg.here | exact PickSeg.all | apply PickSeg.there | apply PickSeg.seg)) ?_ | exact Sub.seg0 (by repeat (first | exact PickSeg.here | exact PickSeg.all | apply PickSeg.there | apply PickSeg.seg)) | apply Sub.assoc))), ?_⟩
                    refine kt_gv rfl rfl rfl rfl hb55 (v_not) ?_
                    refine kt_d rfl rfl rfl (v_pt hb55) ?_
                    refine kt_d rfl rfl rfl (v_mv) ?_
                    refine kt_one ?_
                    refine kl_skip rfl rfl rfl rfl hb67 (by (repeat (first | exact Sub.refl _ | exact Sub.nil _ | refine Sub.chunk (by repeat (first | exact Pick.here | apply Pick.there | apply Pick.seg)) (by rfl) ?_ | refine Sub.seg (by repeat (first | exact PickSeg.here | exact PickSeg.all | apply PickSeg.there | apply PickSeg.seg)) ?_ | exact Sub.seg0 (by repeat (first | exact PickSeg.here | exact PickSeg.all | apply PickSeg.there | apply PickSeg.seg)) | apply Sub.assoc))) ?_
                    refine kt_d rfl rfl rfl (v_pf hb67) ?_
                    refine kt_d rfl rfl rfl (v_as) ?_
                    refine kt_nil ?_
                    refine kn_then ?_
                    exact ⟨(), hd_mk trivial⟩
                ·
                  refine kl_gk rfl rfl rfl rfl hb55 (n_lit (enc := encAirway) [_] ([(⟨0, 0, 1⟩ : Airway)] : List Airway) Tryd.runUnderlying30 Tryd.sizeOf36 Tryd.zeroValue36 (fun a60 => ?_))
                  refine ⟨.inl (by (repeat (first | exact Sub.refl _ | exact Sub.nil _ | refine Sub.chunk (by repeat (first | exact Pick.here | apply Pick.there | apply Pick.seg)) (by rfl) ?_ | refine Sub.seg (by repeat (first | exact PickSeg.here | exact PickSeg.all | apply PickSeg.there | apply PickSeg.seg)) ?_ | exact Sub.seg0 (by repeat (first | exact PickSeg.here | exact PickSeg.all | apply PickSeg.there | apply PickSeg.seg)) | apply Sub.assoc))), ?_⟩
                  refine kt_one ?_
                  refine kl_gk rfl rfl rfl rfl hb55 (n_lit (enc := encAirway) [] ([] : List Airway) Tryd.runUnderlying30 Tryd.sizeOf36 Tryd.zeroValue36 (fun a56 => ?_))
                  refine ⟨.inl (by (repeat (first | exact Sub.refl _ | exact Sub.nil _ | refine Sub.chunk (by repeat (first | exact Pick.here | apply Pick.there | apply Pick.seg)) (by rfl) ?_ | refine Sub.seg (by repeat (first | exact PickSeg.here | exact PickSeg.all | apply PickSeg.there | apply PickSeg.seg)) ?_ | exact Sub.seg0 (by repeat (first | exact PickSeg.here | exact PickSeg.all | apply PickSeg.there | apply PickSeg.seg)) | apply Sub.assoc))), ?_⟩
                  refine kt_one ?_
                  refine kl_gk rfl rfl rfl rfl hb55 (n_app (enc := encAirway) ok_encAirway hz57 Tryd.underlying30 Tryd.type36 (by decide) (fun a58 c59 => ?_))
                  refine ⟨.inl (by (repeat (first | exact Sub.refl _ | exact Sub.nil _ | refine Sub.chunk (by repeat (first | exact Pick.here | apply Pick.there | apply Pick.seg)) (by rfl) ?_ | refine Sub.seg (by repeat (first | exact PickSeg.here | exact PickSeg.all | apply PickSeg.there | apply PickSeg.seg)) ?_ | exact Sub.seg0 (by repeat (first | exact PickSeg.here | exact PickSeg.all | apply PickSeg.there | apply PickSeg.seg)) | apply Sub.assoc))), ?_⟩
                  refine kt_one ?_
                  refine kl_gk rfl rfl rfl rfl hb55 (n_app (enc := encAirway) ok_encAirway hz61 Tryd.underlying30 Tryd.type36 (by decide) (fun a62 c63 => ?_))
                  refine ⟨.inl (by (repeat (first | exact Sub.refl _ | exact Sub.nil _ | refine Sub.chunk (by repeat (first | exact Pick.here | apply Pick.there | apply Pick.seg)) (by rfl) ?_ | refine Sub.seg (by repeat (first | exact PickSeg.here | exact PickSeg.all | apply PickSeg.there | apply PickSeg.seg)) ?_ | exact Sub.seg0 (by repeat (first | exact PickSeg.here | exact PickSeg.all | apply PickSeg.there | apply PickSeg.seg)) | apply Sub.assoc))), ?_⟩
                  refine kt_gv rfl rfl rfl rfl hb55 (v_bd [(0, _), (1, _)] [_, _] Tryd.zeroValue32 Tryd.runUnderlying32 pl_32) ?_
                  refine kt_one ?_
                  refine kl_gk rfl rfl rfl rfl hb55 (n_call Tryd.call20 (w_impl_MineValid a62 (((([] : List Airway) ++ v4.aw) ++ ([(⟨0, 0, 1⟩ : Airway)] : List Airway)).length) c63 hv64) ?_)
                  rintro _ _ ⟨rfl, rfl⟩
                  refine ⟨.inl (by (repeat (first | exact Sub.refl _ | exact Sub.nil _ | refine Sub.chunk (by repeat (first | exact Pick.here | apply Pick.there | apply Pick.seg)) (by rfl) ?_ | refine Sub.seg (by repeat (first | exact PickSeg.here | exact PickSeg.all | apply PickSeg.there | apply PickSeg.seg)) ?_ | exact Sub.seg0 (by repeat (first | exact PickSeg.here | exact PickSeg.all | apply PickSeg.there | apply PickSeg.seg)) | apply Sub.assoc))), ?_⟩
                  refine kt_gv rfl rfl rfl rfl hb55 (v_not) ?_
                  refine kt_d rfl rfl rfl (v_pt hb55) ?_
                  refine kt_d rfl rfl rfl (v_mv) ?_
                  refine kt_one ?_
                  refine kl_skip rfl rfl rfl rfl hb67 (by (repeat (first | exact Sub.refl _ | exact Sub.nil _ | refine Sub.chunk (by repeat (first | exact Pick.here | apply Pick.there | apply Pick.seg)) (by rfl) ?_ | refine Sub.seg (by repeat (first | exact PickSeg.here | exact PickSeg.all | apply PickSeg.there | apply PickSeg.seg)) ?_ | exact Sub.seg0 (by repeat (first | exact PickSeg.here | exact PickSeg.all | apply PickSeg.there | apply PickSeg.seg)) | apply Sub.assoc))) ?_
                  refine kt_d rfl rfl rfl (v_pf hb67) ?_
                  refine kt_d rfl rfl rfl (v_as) ?_
                  refine kt_nil ?_
                  refine kn_then ?_
                  exact ⟨(), hd_mk trivial⟩
              · intro y72 _
                refine kn_then ?_
                refine kwp_ret ?_
                obtain rfl := e_some h
                refine r1 [] ?_
                exact ⟨rfl, rfl⟩
          ·
            replace h := e_f h hb55
            refine kwp_cutS (inv := [(2, .bool false)]) (fun (y : Unit) => []) (fun (y : Unit) => []) (fun (y : Unit) => True) ?_ ?_
            ·
              refine kwp_tree (.quiet 0 (.quiet 1 (.quiet 2 (.quiet 3 (.quiet 4 (.quiet 5 (.quiet 6 (.quiet 7 (.quiet 8 (.quiet 9 (.quiet 10 (.quiet 11 (.quiet 12 (.quiet 13 (.quiet 14 (.one 15 (.quiet 16 (.quiet 17 (.quiet 18 (.quiet 19 (.quiet 21 (.quiet 22 (.quiet 24 (.two 20 (.two 23 (.one 25 (.one 26 (.quiet 27 (.one 28 (.quiet 29 (.quiet 30 (.quiet 31 (.one 32 (.quiet 33 (.quiet 34 .stop)))))))))) 25 (.one 23 (.one 26 (.quiet 27 (.one 28 (.quiet 29 (.quiet 30 (.quiet 31 (.one 32 (.quiet 33 (.quiet 34 .stop))))))))))) 25 (.one 20 (.one 23 (.one 26 (.quiet 27 (.one 28 (.quiet 29 (.quiet 30 (.quiet 31 (.one 32 (.quiet 33 (.quiet 34 .stop))))))))))))))))))))))))))))))))))) [] [⟨.slice q51a v4.aw.length q51c, 3, v4.aw.map encAirway⟩, ⟨.pointer (some p3_6), 2, [[.int .i64 v4.p, .slice q51a v4.aw.length q51c]]⟩] drawMixed (by kernel_rfl) nopan (by (repeat (first | exact Sub.refl _ | exact Sub.nil _ | refine Sub.chunk (by repeat (first | exact Pick.here | apply Pick.there | apply Pick.seg)) (by rfl) ?_ | refine Sub.seg (by repeat (first | exact PickSeg.here | exact PickSeg.all | apply PickSeg.there | apply PickSeg.seg)) ?_ | exact Sub.seg0 (by repeat (first | exact PickSeg.here | exact PickSeg.all | apply PickSeg.there | apply PickSeg.seg)) | apply Sub.assoc))) ?_
              refine kt_d rfl rfl rfl (v_mv) ?_
              refine kt_d rfl rfl rfl (v_not) ?_
              refine kt_d rfl rfl rfl (v_mv) ?_
              refine kt_gv rfl rfl rfl rfl hb14 (v_fb fa_32_1) ?_
              refine kt_gv rfl rfl rfl rfl hb14 (v_ldb Tryd.isAgg30) ?_
              refine kt_gv rfl rfl rfl rfl hb14 (v_len Tryd.runUnderlying30) ?_
              refine kt_gv rfl rfl rfl rfl hb14 (v_cmp) ?_
              refine kt_d rfl rfl rfl (v_pf hb14) ?_
              refine kt_d rfl rfl rfl (v_mv) ?_
              refine kt_gv rfl rfl rfl rfl hb32 (v_fb fa_32_0) ?_
              refine kt_gv rfl rfl rfl rfl hb32 (v_ldb Tryd.isAgg3) ?_
              refine kt_gv rfl rfl rfl rfl hb32 (v_fb fa_32_1) ?_
              refine kt_gv rfl rfl rfl rfl hb32 (v_ldb Tryd.isAgg30) ?_
              refine kt_gv rfl rfl rfl rfl hb32 (v_sl (l := j50) (h := j51) oj50 oj51 Tryd.runUnderlying30 Tryd.sizeOf36 (hlo := by exact ⟨_, _, rfl, ej50⟩) (hhi := by show _ = _; omega)) ?_
              refine kt_gv rfl rfl rfl rfl hb32 (v_bd [(0, _), (1, _)] [_, _] Tryd.zeroValue32 Tryd.runUnderlying32 pl_32) ?_
              refine kt_one ?_
              refine kl_gk rfl rfl rfl rfl hb32 (n_call Tryd.call20 (w_impl_MineValid (subA q51a q51c 3 j50) (j51 - j50) (q51c - j50) hv52) ?_ (hv := (Views.cons (by repeat (first | exact mh | apply mt | apply mas | apply ms)) (view_cut (c := q51c) oj50 oj51) (Views.nil _))))
              rintro _ _ ⟨rfl, rfl⟩
              refine ⟨.inl (by (repeat (first | exact Sub.refl _ | exact Sub.nil _ | refine Sub.chunk (by repeat (first | exact Pick.here | apply Pick.there | apply Pick.seg)) (by rfl) ?_ | refine Sub.seg (by repeat (first | exact PickSeg.here | exact PickSeg.all | apply PickSeg.there | apply PickSeg.seg)) ?_ | exact Sub.seg0 (by repeat (first | exact PickSeg.here | exact PickSeg.all | apply PickSeg.there | apply PickSeg.seg)) | apply Sub.assoc))), ?_⟩
              refine kt_d rfl rfl rfl (v_pf hb32) ?_
              refine kt_d rfl rfl rfl (v_mv) ?_
              refine kt_skip rfl rfl rfl rfl hb55 ?_
              refine kt_skip rfl rfl rfl rfl hb55 ?_
              refine kt_skip rfl rfl rfl rfl hb55 ?_
              refine kt_skip rfl rfl rfl rfl hb55 ?_
              refine kt_skip rfl rfl rfl rfl hb55 ?_
              refine kt_two ?_ ?_
              ·
                refine kl_skip rfl rfl rfl rfl hb55 (by (repeat (first | exact Sub.refl _ | exact Sub.nil _ | refine Sub.chunk (by repeat (first | exact Pick.here | apply Pick.there | apply Pick.seg)) (by rfl) ?_ | refine Sub.seg (by repeat (first | exact PickSeg.here | exact PickSeg.all | apply PickSeg.there | apply PickSeg.seg)) ?_ | exact Sub.seg0 (by repeat (first | exact PickSeg.here | exact PickSeg.all | apply PickSeg.there | apply PickSeg.seg)) | apply Sub.assoc))) ?_
                refine kt_two ?_ ?_
                ·
                  refine kl_skip rfl rfl rfl rfl hb55 (by (repeat (first | exact Sub.refl _ | exact Sub.nil _ | refine Sub.chunk (by repeat (first | exact Pick.here | apply Pick.there | apply Pick.seg)) (by rfl) ?_ | refine Sub.seg (by repeat (first | exact PickSeg.here | exact PickSeg.all | apply PickSeg.there | apply PickSeg.seg)) ?_ | exact Sub.seg0 (by repeat (first | exact PickSeg.here | exact PickSeg.all | apply PickSeg.there | apply PickSeg.seg)) | apply Sub.assoc))) ?_
                  refine kt_one ?_
                  refine kl_skip rfl rfl rfl rfl hb55 (by (repeat (first | exact Sub.refl _ | exact Sub.nil _ | refine Sub.chunk (by repeat (first | exact Pick.here | apply Pick.there | apply Pick.seg)) (by rfl) ?_ | refine Sub.seg (by repeat (first | exact PickSeg.here | exact PickSeg.all | apply PickSeg.there | apply PickSeg.seg)) ?_ | exact Sub.seg0 (by repeat (first | exact PickSeg.here | exact PickSeg.all | apply PickSeg.there | apply PickSeg.seg)) | apply Sub.assoc))) ?_
                  refine kt_one ?_
                  refine kl_skip rfl rfl rfl rfl hb55 (by (repeat (first | exact Sub.refl _ | exact Sub.nil _ | refine Sub.chunk (by repeat (first | exact Pick.here | apply Pick.there | apply Pick.seg)) (by rfl) ?_ | refine Sub.seg (by repeat (first | exact PickSeg.here | exact PickSeg.all | apply PickSeg.there | apply PickSeg.seg)) ?_ | exact Sub.seg0 (by repeat (first | exact PickSeg.here | exact PickSeg.all | apply PickSeg.there | apply PickSeg.seg)) | apply Sub.assoc))) ?_
                  refine kt_skip rfl rfl rfl rfl hb55 ?_
                  refine kt_one ?_
                  refine kl_skip rfl rfl rfl rfl hb55 (by (repeat (first | exact Sub.refl _ | exact Sub.nil _ | refine Sub.chunk (by repeat (first | exact Pick.here | apply Pick.there | apply Pick.seg)) (by rfl) ?_ | refine Sub.seg (by repeat (first | exact PickSeg.here | exact PickSeg.all | apply PickSeg.there | apply PickSeg.seg)) ?_ | exact Sub.seg0 (by repeat (first | exact PickSeg.here | exact PickSeg.all | apply PickSeg.there | apply PickSeg.seg)) | apply Sub.assoc))) ?_
                  refine kt_skip rfl rfl rfl rfl hb55 ?_
                  refine kt_d rfl rfl rfl (v_pf hb55) ?_
                  refine kt_d rfl rfl rfl (v_mv) ?_
                  refine kt_one ?_
                  refine kl_skip rfl rfl rfl rfl rfl (by (repeat (first | exact Sub.refl _ | exact Sub.nil _ | refine Sub.chunk (by repeat (first | exact Pick.here | apply Pick.there | apply Pick.seg)) (by rfl) ?_ | refine Sub.seg (by repeat (first | exact PickSeg.here | exact PickSeg.all | apply PickSeg.there | apply PickSeg.seg)) ?_ | exact Sub.seg0 (by repeat (first | exact PickSeg.here | exact PickSeg.all | apply PickSeg.there | apply PickSeg.seg)) | apply Sub.assoc))) ?_
                  refine kt_d rfl rfl rfl (v_pf rfl) ?_
                  refine kt_d rfl rfl rfl (v_as) ?_
                  refine kt_nil ?_
                  refine kn_then ?_
                  exact ⟨(), hd_mk trivial⟩
                ·
                  refine kl_skip rfl rfl rfl rfl hb55 (by (repeat (first | exact Sub.refl _ | exact Sub.nil _ | refine Sub.chunk (by repeat (first | exact Pick.here | apply Pick.there | apply Pick.seg)) (by rfl) ?_ | refine Sub.seg (by repeat (first | exact PickSeg.here | exact PickSeg.all | apply PickSeg.there | apply PickSeg.seg)) ?_ | exact Sub.seg0 (by repeat (first | exact PickSeg.here | exact PickSeg.all | apply PickSeg.there | apply PickSeg.seg)) | apply Sub.assoc))) ?_
                  refine kt_one ?_
                  refine kl_skip rfl rfl rfl rfl hb55 (by (repeat (first | exact Sub.refl _ | exact Sub.nil _ | refine Sub.chunk (by repeat (first | exact Pick.here | apply Pick.there | apply Pick.seg)) (by rfl) ?_ | refine Sub.seg (by repeat (first | exact PickSeg.here | exact PickSeg.all | apply PickSeg.there | apply PickSeg.seg)) ?_ | exact Sub.seg0 (by repeat (first | exact PickSeg.here | exact PickSeg.all | apply PickSeg.there | apply PickSeg.seg)) | apply Sub.assoc))) ?_
                  refine kt_one ?_
                  refine kl_skip rfl rfl rfl rfl hb55 (by (repeat (first | exact Sub.refl _ | exact Sub.nil _ | refine Sub.chunk (by repeat (first | exact Pick.here | apply Pick.there | apply Pick.seg)) (by rfl) ?_ | refine Sub.seg (by repeat (first | exact PickSeg.here | exact PickSeg.all | apply PickSeg.there | apply PickSeg.seg)) ?_ | exact Sub.seg0 (by repeat (first | exact PickSeg.here | exact PickSeg.all | apply PickSeg.there | apply PickSeg.seg)) | apply Sub.assoc))) ?_
                  refine kt_skip rfl rfl rfl rfl hb55 ?_
                  refine kt_one ?_
                  refine kl_skip rfl rfl rfl rfl hb55 (by (repeat (first | exact Sub.refl _ | exact Sub.nil _ | refine Sub.chunk (by repeat (first | exact Pick.here | apply Pick.there | apply Pick.seg)) (by rfl) ?_ | refine Sub.seg (by repeat (first | exact PickSeg.here | exact PickSeg.all | apply PickSeg.there | apply PickSeg.seg)) ?_ | exact Sub.seg0 (by repeat (first | exact PickSeg.here | exact PickSeg.all | apply PickSeg.there | apply PickSeg.seg)) | apply Sub.assoc))) ?_
                  refine kt_skip rfl rfl rfl rfl hb55 ?_
                  refine kt_d rfl rfl rfl (v_pf hb55) ?_
                  refine kt_d rfl rfl rfl (v_mv) ?_
                  refine kt_one ?_
                  refine kl_skip rfl rfl rfl rfl rfl (by (repeat (first | exact Sub.refl _ | exact Sub.nil _ | refine Sub.chunk (by repeat (first | exact Pick.here | apply Pick.there | apply Pick.seg)) (by rfl) ?_ | refine Sub.seg (by repeat (first | exact PickSeg.here | exact PickSeg.all | apply PickSeg.there | apply PickSeg.seg)) ?_ | exact Sub.seg0 (by repeat (first | exact PickSeg.here | exact PickSeg.all | apply PickSeg.there | apply PickSeg.seg)) | apply Sub.assoc))) ?_
                  refine kt_d rfl rfl rfl (v_pf rfl) ?_
                  refine kt_d rfl rfl rfl (v_as) ?_
                  refine kt_nil ?_
                  refine kn_then ?_
                  exact ⟨(), hd_mk trivial⟩
              ·
                refine kl_skip rfl rfl rfl rfl hb55 (by (repeat (first | exact Sub.refl _ | exact Sub.nil _ | refine Sub.chunk (by repeat (first | exact Pick.here | apply Pick.there | apply Pick.seg)) (by rfl) ?_ | refine Sub.seg (by repeat (first | exact PickSeg.here | exact PickSeg.all | apply PickSeg.there | apply PickSeg.seg)) ?_ | exact Sub.seg0 (by repeat (first | exact PickSeg.here | exact PickSeg.all | apply PickSeg.there | apply PickSeg.seg)) | apply Sub.assoc))) ?_
                refine kt_one ?_
                refine kl_skip rfl rfl rfl rfl hb55 (by (repeat (first | exact Sub.refl _ | exact Sub.nil _ | refine Sub.chunk (by repeat (first | exact Pick.here | apply Pick.there | apply Pick.seg)) (by rfl) ?_ | refine Sub.seg (by repeat (first | exact PickSeg.here | exact PickSeg.all | apply PickSeg.there | apply PickSeg.seg)) ?_ | exact Sub.seg0 (by repeat (first | exact PickSeg.here | exact PickSeg.all | apply PickSeg.there | apply PickSeg.seg)) | apply Sub.assoc))) ?_
                refine kt_one ?_
                refine kl_skip rfl rfl rfl rfl hb55 (by (repeat (first | exact Sub.refl _ | exact Sub.nil _ | refine Sub.chunk (by repeat (first | exact Pick.here | apply Pick.there | apply Pick.seg)) (by rfl) ?_ | refine Sub.seg (by repeat (first | exact PickSeg.here | exact PickSeg.all | apply PickSeg.there | apply PickSeg.seg)) ?_ | exact Sub.seg0 (by repeat (first | exact PickSeg.here | exact PickSeg.all | apply PickSeg.there | apply PickSeg.seg)) | apply Sub.assoc))) ?_
                refine kt_one ?_
                refine kl_skip rfl rfl rfl rfl hb55 (by (repeat (first | exact Sub.refl _ | exact Sub.nil _ | refine Sub.chunk (by repeat (first | exact Pick.here | apply Pick.there | apply Pick.seg)) (by rfl) ?_ | refine Sub.seg (by repeat (first | exact PickSeg.here | exact PickSeg.all | apply PickSeg.there | apply PickSeg.seg)) ?_ | exact Sub.seg0 (by repeat (first | exact PickSeg.here | exact PickSeg.all | apply PickSeg.there | apply PickSeg.seg)) | apply Sub.assoc))) ?_
                refine kt_skip rfl rfl rfl rfl hb55 ?_
                refine kt_one ?_
                refine kl_skip rfl rfl rfl rfl hb55 (by (repeat (first | exact Sub.refl _ | exact Sub.nil _ | refine Sub.chunk (by repeat (first | exact Pick.here | apply Pick.there | apply Pick.seg)) (by rfl) ?_ | refine Sub.seg (by repeat (first | exact PickSeg.here | exact PickSeg.all | apply PickSeg.there | apply PickSeg.seg)) ?_ | exact Sub.seg0 (by repeat (first | exact PickSeg.here | exact PickSeg.all | apply PickSeg.there | apply PickSeg.seg)) | apply Sub.assoc))) ?_
                refine kt_skip rfl rfl rfl rfl hb55 ?_
                refine kt_d rfl rfl rfl (v_pf hb55) ?_
                refine kt_d rfl rfl rfl (v_mv) ?_
                refine kt_one ?_
                refine kl_skip rfl rfl rfl rfl rfl (by (repeat (first | exact Sub.refl _ | exact Sub.nil _ | refine Sub.chunk (by repeat (first | exact Pick.here | apply Pick.there | apply Pick.seg)) (by rfl) ?_ | refine Sub.seg (by repeat (first | exact PickSeg.here | exact PickSeg.all | apply PickSeg.there | apply PickSeg.seg)) ?_ | exact Sub.seg0 (by repeat (first | exact PickSeg.here | exact PickSeg.all | apply PickSeg.there | apply PickSeg.seg)) | apply Sub.assoc))) ?_
                refine kt_d rfl rfl rfl (v_pf rfl) ?_
                refine kt_d rfl rfl rfl (v_as) ?_
                refine kt_nil ?_
                refine kn_then ?_
                exact ⟨(), hd_mk trivial⟩
            · intro y73 _
              refine kn_then ?_
              refine kwp_ret ?_
              obtain rfl := e_some h
              refine r1 [] ?_
              exact ⟨rfl, rfl⟩

end Go.Proofs.YtpfijnklnljccaaDoor
