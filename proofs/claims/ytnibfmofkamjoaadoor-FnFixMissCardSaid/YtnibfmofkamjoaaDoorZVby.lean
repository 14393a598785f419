/- What the plain programs return, the functions of the program return; no condition. -/
import Derived.Test.YtnibfmofkamjoaaDoorZQ
import Derived.Test.YtnibfmofkamjoaaDoorZFa
import Derived.Test.YtnibfmofkamjoaaDoorZVbj
namespace Go.Proofs.YtnibfmofkamjoaaDoor
open Go
set_option linter.unusedVariables false
set_option linter.unusedSimpArgs false

set_option maxRecDepth 20000 in
set_option maxHeartbeats 2000000 in
theorem w_impl_FixMiss (s01a : Option Addr) (s01n : Nat) (s01c : Nat) (f01a : Option Addr) (f01n : Nat) (f01c : Nat) {s0 : Survey} {f0 : Fix} {index0 : Int} {r : Way × Bool} (h : p_impl_FixMiss s0 f0 index0 = some r) :
    Triple Tryd.prog 20 [.agg #[.int .i64 s0.st, .slice s01a s01n s01c], .agg #[.int .i64 f0.den, .slice f01a f01n f01c], .int .i64 index0] [⟨.slice s01a s01n s01c, 5, s0.legs.map encLeg⟩, ⟨.slice f01a f01n f01c, 3, f0.nums.map encWay⟩] [] (fun v ch => v = .tuple #[.agg #[.int .i64 r.1.e, .int .i64 r.1.n, .int .i64 r.1.u], .bool r.2] ∧ ch = []) := by
  refine triple_start 49 Tryd.func20 Tryd.ntmps20 rfl rfl (fun w0 => ?_)
  refine k_len (c := s01c) (fun hl1 => ?_)
  subst hl1
  refine k_len (c := f01c) (fun hl2 => ?_)
  subst hl2
  unfold p_impl_FixMiss at h
  refine kwp_seq ?_
  refine kwp_region ?_
  refine kk (n_box (e := [.int .i64 s0.st, .slice s01a s0.legs.length s01c]) 2 (fun p3_3 => ?_))
  refine kk (n_box (e := [.int .i64 f0.den, .slice f01a f0.nums.length f01c]) 2 (fun p4_4 => ?_))
  refine kk (n_alloc (e := [.int .i64 0, .int .i64 0, .int .i64 0]) 3 Tryd.zeroValue37 (fun p6_5 => ?_))
  refine kd (v_as) ?_
  refine kops_nil ?_
  refine kn_then ?_
  refine kwp_seq ?_
  refine kwp_seq ?_
  refine kwp_cutE (inv := [(2, .int .i64 index0), (3, .pointer (some p3_3)), (4, .pointer (some p4_4)), (6, .pointer (some p6_5))]) (fun (z : Bool) (y : Unit) => [(21, .bool z)]) (fun (z : Bool) (y : Unit) => [⟨.pointer (some p3_3), 2, [[.int .i64 s0.st, .slice s01a s0.legs.length s01c]]⟩, ⟨.pointer (some p4_4), 2, [[.int .i64 f0.den, .slice f01a f0.nums.length f01c]]⟩, ⟨.pointer (some p6_5), 3, [[.int .i64 0, .int .i64 0, .int .i64 0]]⟩]) (fun _ _ => True) h ?_ ?_
  · intro t9 h7
    refine kwp_region ?_
    refine kd (v_ldB Tryd.isAgg25 Tryd.sizeOf25) ?_
    refine kd (v_ldB Tryd.isAgg31 Tryd.sizeOf31) ?_
    obtain ⟨v11, hv10, h7⟩ := e_bind h7
    refine kk (n_call Tryd.call22 (w_impl_FixValid s01a s0.legs.length s01c f01a f0.nums.length f01c hv10) ?_)
    rintro _ _ ⟨rfl, rfl⟩
    refine kd (v_not) ?_
    refine kd (v_mv) ?_
    refine kops_split 14 rfl (fun hb13 => ?_) (fun hb13 => ?_)
    ·
      replace h7 := e_t h7 hb13
      refine kskip hb13 ?_
      refine kskip hb13 ?_
      refine kskip hb13 ?_
      refine kskip hb13 ?_
      refine kskip hb13 ?_
      refine kskip hb13 ?_
      refine kd (v_pt hb13) ?_
      refine kops_nil ?_
      refine kn_then ?_
      obtain rfl := e_some h7
      exact ⟨(), hd_mk trivial⟩
    ·
      replace h7 := e_f h7 hb13
      refine kgd hb13 (v_mv) ?_
      refine kgd hb13 (v_fb fa_25_1) ?_
      refine kgd hb13 (v_ldb Tryd.isAgg23) ?_
      refine kgd hb13 (v_len Tryd.runUnderlying23) ?_
      obtain ⟨v15, hv14, h7⟩ := e_bind h7
      refine kgk hb13 (n_call Tryd.call75 (w_impl_isIndex hv14) ?_)
      rintro _ _ ⟨rfl, rfl⟩
      refine kgd hb13 (v_not) ?_
      refine kd (v_pf hb13) ?_
      refine kops_nil ?_
      refine kn_then ?_
      obtain rfl := e_some h7
      exact ⟨(), hd_mk trivial⟩
  · intro x6 y18 _ h19
    refine kn_then ?_
    refine kwp_cond rfl (fun hc20 => ?_) (fun hc20 => ?_)
    ·
      replace h19 := e_t h19 hc20
      refine kwp_seq ?_
      refine kwp_region ?_
      refine kd (v_bd [] [.int .i64 0, .int .i64 0, .int .i64 0] Tryd.zeroValue37 Tryd.runUnderlying37 pl_37) ?_
      refine kk (s_B (e' := [.int .i64 0, .int .i64 0, .int .i64 0]) Tryd.sizeOf37 ?_)
      refine kd (v_as) ?_
      refine kops_nil ?_
      refine kn_then ?_
      refine kwp_ret ?_
      refine kr_then ?_
      obtain rfl := e_some h19
      refine rc1 Tryd.isAgg37 Tryd.sizeOf37 [] ?_
      exact ⟨rfl, rfl⟩
    ·
      replace h19 := e_f h19 hc20
      refine kwp_skip ?_
      refine kn_then ?_
      refine kwp_seq ?_
      refine kwp_region ?_
      refine kd (v_fb fa_25_1) ?_
      refine kd (v_ldb Tryd.isAgg23) ?_
      refine kd (v_mv) ?_
      obtain ⟨j21, ej21, nj21, h19⟩ := e_idx h19
      refine kd (v_ia ej21 nj21 Tryd.runUnderlying23 Tryd.sizeOf48) ?_
      refine kd (v_lda (e := [_, _, _, _, _]) nj21 Tryd.isAgg48 Tryd.sizeOf48) ?_
      refine kk (n_alloc (e := [.int .i64 0, .int .i64 0, .int .i64 0, .int .i64 0, .int .i64 0]) 5 Tryd.zeroValue48 (fun p8_22 => ?_))
      refine kk (s_B (e' := [.int .i64 ((gx s0.legs j21).f), .int .i64 ((gx s0.legs j21).t), .int .i64 ((gx s0.legs j21).e), .int .i64 ((gx s0.legs j21).n), .int .i64 ((gx s0.legs j21).u)]) Tryd.sizeOf48 ?_)
      refine kops_nil ?_
      refine kn_then ?_
      refine kwp_seq ?_
      obtain ⟨v24, hv23, h19⟩ := e_bind h19
      obtain ⟨v27, hv26, h19⟩ := e_bind h19
      obtain ⟨j29, ej29, nj29, h19⟩ := e_idx h19
      obtain ⟨v31, hv30, h19⟩ := e_bind h19
      refine kwp_cutS (inv := [(4, .pointer (some p4_4)), (6, .pointer (some p6_5)), (8, .pointer (some p8_22))]) (fun (y : Addr) => [(9, .pointer (some y))]) (fun (y : Addr) => [⟨.pointer (some p4_4), 2, [[.int .i64 f0.den, .slice f01a f0.nums.length f01c]]⟩, ⟨.pointer (some p6_5), 3, [[.int .i64 0, .int .i64 0, .int .i64 0]]⟩, ⟨.pointer (some p8_22), 5, [[.int .i64 ((gx s0.legs j21).f), .int .i64 ((gx s0.legs j21).t), .int .i64 ((gx s0.legs j21).e), .int .i64 ((gx s0.legs j21).n), .int .i64 ((gx s0.legs j21).u)]]⟩, ⟨.pointer (some y), 3, [[.int .i64 v31.e, .int .i64 v31.n, .int .i64 v31.u]]⟩]) (fun (y : Addr) => True) ?_ ?_
      ·
        refine kwp_tree (.quiet 0 (.quiet 2 (.quiet 3 (.quiet 5 (.quiet 6 (.quiet 7 (.quiet 8 (.quiet 9 (.quiet 10 (.two 1 (.two 4 (.two 11 (.one 12 (.one 13 .stop)) 12 (.one 11 (.one 13 .stop))) 12 (.one 4 (.one 11 (.one 13 .stop)))) 12 (.one 1 (.one 4 (.one 11 (.one 13 .stop)))))))))))))) [] [⟨.pointer (some p4_4), 2, [[.int .i64 f0.den, .slice f01a f0.nums.length f01c]]⟩, ⟨.pointer (some p8_22), 5, [[.int .i64 ((gx s0.legs j21).f), .int .i64 ((gx s0.legs j21).t), .int .i64 ((gx s0.legs j21).e), .int .i64 ((gx s0.legs j21).n), .int .i64 ((gx s0.legs j21).u)]]⟩] drawMixed (by kernel_rfl) nopan (by (repeat (first | exact Sub.refl _ | exact Sub.nil _ | refine Sub.chunk (by repeat (first | exact Pick.here | apply Pick.there | apply Pick.seg)) (by rfl) ?_ | refine Sub.seg (by repeat (first | exact PickSeg.here | exact PickSeg.all | apply PickSeg.there | apply PickSeg.seg)) ?_ | exact Sub.seg0 (by repeat (first | exact PickSeg.here | exact PickSeg.all | apply PickSeg.there | apply PickSeg.seg)) | apply Sub.assoc))) ?_
        refine kt_d rfl rfl rfl (v_ldB Tryd.isAgg48 Tryd.sizeOf48) ?_
        refine kt_d rfl rfl rfl (v_fb fa_31_0) ?_
        refine kt_d rfl rfl rfl (v_ldb Tryd.isAgg3) ?_
        refine kt_d rfl rfl rfl (v_fb fa_31_1) ?_
        refine kt_d rfl rfl rfl (v_ldb Tryd.isAgg29) ?_
        refine kt_d rfl rfl rfl (v_fb fa_48_0) ?_
        refine kt_d rfl rfl rfl (v_ldb Tryd.isAgg3) ?_
        refine kt_d rfl rfl rfl (v_ia ej29 nj29 Tryd.runUnderlying29 Tryd.sizeOf37) ?_
        refine kt_d rfl rfl rfl (v_lda (e := [_, _, _]) nj29 Tryd.isAgg37 Tryd.sizeOf37) ?_
        refine kt_two ?_ ?_
        ·
          refine kl_k rfl rfl (n_call Tryd.call76 (w_impl_legWay hv23) ?_)
          rintro _ _ ⟨rfl, rfl⟩
          refine ⟨.inl (by (repeat (first | exact Sub.refl _ | exact Sub.nil _ | refine Sub.chunk (by repeat (first | exact Pick.here | apply Pick.there | apply Pick.seg)) (by rfl) ?_ | refine Sub.seg (by repeat (first | exact PickSeg.here | exact PickSeg.all | apply PickSeg.there | apply PickSeg.seg)) ?_ | exact Sub.seg0 (by repeat (first | exact PickSeg.here | exact PickSeg.all | apply PickSeg.there | apply PickSeg.seg)) | apply Sub.assoc))), ?_⟩
          refine kt_two ?_ ?_
          ·
            refine kl_k rfl rfl (n_call Tryd.call32 (w_impl_WayTimes hv26) ?_)
            rintro _ _ ⟨rfl, rfl⟩
            refine ⟨.inl (by (repeat (first | exact Sub.refl _ | exact Sub.nil _ | refine Sub.chunk (by repeat (first | exact Pick.here | apply Pick.there | apply Pick.seg)) (by rfl) ?_ | refine Sub.seg (by repeat (first | exact PickSeg.here | exact PickSeg.all | apply PickSeg.there | apply PickSeg.seg)) ?_ | exact Sub.seg0 (by repeat (first | exact PickSeg.here | exact PickSeg.all | apply PickSeg.there | apply PickSeg.seg)) | apply Sub.assoc))), ?_⟩
            refine kt_two ?_ ?_
            ·
              refine kl_k rfl rfl (n_call Tryd.call31 (w_impl_WayAdd hv30) ?_)
              rintro _ _ ⟨rfl, rfl⟩
              refine ⟨.inl (by (repeat (first | exact Sub.refl _ | exact Sub.nil _ | refine Sub.chunk (by repeat (first | exact Pick.here | apply Pick.there | apply Pick.seg)) (by rfl) ?_ | refine Sub.seg (by repeat (first | exact PickSeg.here | exact PickSeg.all | apply PickSeg.there | apply PickSeg.seg)) ?_ | exact Sub.seg0 (by repeat (first | exact PickSeg.here | exact PickSeg.all | apply PickSeg.there | apply PickSeg.seg)) | apply Sub.assoc))), ?_⟩
              refine kt_one ?_
              refine kl_k rfl rfl (n_alloc (e := [.int .i64 0, .int .i64 0, .int .i64 0]) 3 Tryd.zeroValue37 (fun p9_33 => ?_))
              refine ⟨.inl (by (repeat (first | exact Sub.refl _ | exact Sub.nil _ | refine Sub.chunk (by repeat (first | exact Pick.here | apply Pick.there | apply Pick.seg)) (by rfl) ?_ | refine Sub.seg (by repeat (first | exact PickSeg.here | exact PickSeg.all | apply PickSeg.there | apply PickSeg.seg)) ?_ | exact Sub.seg0 (by repeat (first | exact PickSeg.here | exact PickSeg.all | apply PickSeg.there | apply PickSeg.seg)) | apply Sub.assoc))), ?_⟩
              refine kt_one ?_
              refine kl_k rfl rfl (s_B (e' := [.int .i64 v31.e, .int .i64 v31.n, .int .i64 v31.u]) Tryd.sizeOf37 ?_)
              refine ⟨.inl (by (repeat (first | exact Sub.refl _ | exact Sub.nil _ | refine Sub.chunk (by repeat (first | exact Pick.here | apply Pick.there | apply Pick.seg)) (by rfl) ?_ | refine Sub.seg (by repeat (first | exact PickSeg.here | exact PickSeg.all | apply PickSeg.there | apply PickSeg.seg)) ?_ | exact Sub.seg0 (by repeat (first | exact PickSeg.here | exact PickSeg.all | apply PickSeg.there | apply PickSeg.seg)) | apply Sub.assoc))), ?_⟩
              refine kt_nil ?_
              refine kn_then ?_
              exact ⟨p9_33, hd_mk trivial⟩
            ·
              refine kl_k rfl rfl (n_alloc (e := [.int .i64 0, .int .i64 0, .int .i64 0]) 3 Tryd.zeroValue37 (fun p9_33 => ?_))
              refine ⟨.inl (by (repeat (first | exact Sub.refl _ | exact Sub.nil _ | refine Sub.chunk (by repeat (first | exact Pick.here | apply Pick.there | apply Pick.seg)) (by rfl) ?_ | refine Sub.seg (by repeat (first | exact PickSeg.here | exact PickSeg.all | apply PickSeg.there | apply PickSeg.seg)) ?_ | exact Sub.seg0 (by repeat (first | exact PickSeg.here | exact PickSeg.all | apply PickSeg.there | apply PickSeg.seg)) | apply Sub.assoc))), ?_⟩
              refine kt_one ?_
              refine kl_k rfl rfl (n_call Tryd.call31 (w_impl_WayAdd hv30) ?_)
              rintro _ _ ⟨rfl, rfl⟩
              refine ⟨.inl (by (repeat (first | exact Sub.refl _ | exact Sub.nil _ | refine Sub.chunk (by repeat (first | exact Pick.here | apply Pick.there | apply Pick.seg)) (by rfl) ?_ | refine Sub.seg (by repeat (first | exact PickSeg.here | exact PickSeg.all | apply PickSeg.there | apply PickSeg.seg)) ?_ | exact Sub.seg0 (by repeat (first | exact PickSeg.here | exact PickSeg.all | apply PickSeg.there | apply PickSeg.seg)) | apply Sub.assoc))), ?_⟩
              refine kt_one ?_
              refine kl_k rfl rfl (s_B (e' := [.int .i64 v31.e, .int .i64 v31.n, .int .i64 v31.u]) Tryd.sizeOf37 ?_)
              refine ⟨.inl (by (repeat (first | exact Sub.refl _ | exact Sub.nil _ | refine Sub.chunk (by repeat (first | exact Pick.here | apply Pick.there | apply Pick.seg)) (by rfl) ?_ | refine Sub.seg (by repeat (first | exact PickSeg.here | exact PickSeg.all | apply PickSeg.there | apply PickSeg.seg)) ?_ | exact Sub.seg0 (by repeat (first | exact PickSeg.here | exact PickSeg.all | apply PickSeg.there | apply PickSeg.seg)) | apply Sub.assoc))), ?_⟩
              refine kt_nil ?_
              refine kn_then ?_
              exact ⟨p9_33, hd_mk trivial⟩
          ·
            refine kl_k rfl rfl (n_alloc (e := [.int .i64 0, .int .i64 0, .int .i64 0]) 3 Tryd.zeroValue37 (fun p9_33 => ?_))
            refine ⟨.inl (by (repeat (first | exact Sub.refl _ | exact Sub.nil _ | refine Sub.chunk (by repeat (first | exact Pick.here | apply Pick.there | apply Pick.seg)) (by rfl) ?_ | refine Sub.seg (by repeat (first | exact PickSeg.here | exact PickSeg.all | apply PickSeg.there | apply PickSeg.seg)) ?_ | exact Sub.seg0 (by repeat (first | exact PickSeg.here | exact PickSeg.all | apply PickSeg.there | apply PickSeg.seg)) | apply Sub.assoc))), ?_⟩
            refine kt_one ?_
            refine kl_k rfl rfl (n_call Tryd.call32 (w_impl_WayTimes hv26) ?_)
            rintro _ _ ⟨rfl, rfl⟩
            refine ⟨.inl (by (repeat (first | exact Sub.refl _ | exact Sub.nil _ | refine Sub.chunk (by repeat (first | exact Pick.here | apply Pick.there | apply Pick.seg)) (by rfl) ?_ | refine Sub.seg (by repeat (first | exact PickSeg.here | exact PickSeg.all | apply PickSeg.there | apply PickSeg.seg)) ?_ | exact Sub.seg0 (by repeat (first | exact PickSeg.here | exact PickSeg.all | apply PickSeg.there | apply PickSeg.seg)) | apply Sub.assoc))), ?_⟩
            refine kt_one ?_
            refine kl_k rfl rfl (n_call Tryd.call31 (w_impl_WayAdd hv30) ?_)
            rintro _ _ ⟨rfl, rfl⟩
            refine ⟨.inl (by (repeat (first | exact Sub.refl _ | exact Sub.nil _ | refine Sub.chunk (by repeat (first | exact Pick.here | apply Pick.there | apply Pick.seg)) (by rfl) ?_ | refine Sub.seg (by repeat (first | exact PickSeg.here | exact PickSeg.all | apply PickSeg.there | apply PickSeg.seg)) ?_ | exact Sub.seg0 (by repeat (first | exact PickSeg.here | exact PickSeg.all | apply PickSeg.there | apply PickSeg.seg)) | apply Sub.assoc))), ?_⟩
            refine kt_one ?_
            refine kl_k rfl rfl (s_B (e' := [.int .i64 v31.e, .int .i64 v31.n, .int .i64 v31.u]) Tryd.sizeOf37 ?_)
            refine ⟨.inl (by (repeat (first | exact Sub.refl _ | exact Sub.nil _ | refine Sub.chunk (by repeat (first | exact Pick.here | apply Pick.there | apply Pick.seg)) (by rfl) ?_ | refine Sub.seg (by repeat (first | exact PickSeg.here | exact PickSeg.all | apply PickSeg.there | apply PickSeg.seg)) ?_ | exact Sub.seg0 (by repeat (first | exact PickSeg.here | exact PickSeg.all | apply PickSeg.there | apply PickSeg.seg)) | apply Sub.assoc))), ?_⟩
            refine kt_nil ?_
            refine kn_then ?_
            exact ⟨p9_33, hd_mk trivial⟩
        ·
          refine kl_k rfl rfl (n_alloc (e := [.int .i64 0, .int .i64 0, .int .i64 0]) 3 Tryd.zeroValue37 (fun p9_33 => ?_))
          refine ⟨.inl (by (repeat (first | exact Sub.refl _ | exact Sub.nil _ | refine Sub.chunk (by repeat (first | exact Pick.here | apply Pick.there | apply Pick.seg)) (by rfl) ?_ | refine Sub.seg (by repeat (first | exact PickSeg.here | exact PickSeg.all | apply PickSeg.there | apply PickSeg.seg)) ?_ | exact Sub.seg0 (by repeat (first | exact PickSeg.here | exact PickSeg.all | apply PickSeg.there | apply PickSeg.seg)) | apply Sub.assoc))), ?_⟩
          refine kt_one ?_
          refine kl_k rfl rfl (n_call Tryd.call76 (w_impl_legWay hv23) ?_)
          rintro _ _ ⟨rfl, rfl⟩
          refine ⟨.inl (by (repeat (first | exact Sub.refl _ | exact Sub.nil _ | refine Sub.chunk (by repeat (first | exact Pick.here | apply Pick.there | apply Pick.seg)) (by rfl) ?_ | refine Sub.seg (by repeat (first | exact PickSeg.here | exact PickSeg.all | apply PickSeg.there | apply PickSeg.seg)) ?_ | exact Sub.seg0 (by repeat (first | exact PickSeg.here | exact PickSeg.all | apply PickSeg.there | apply PickSeg.seg)) | apply Sub.assoc))), ?_⟩
          refine kt_one ?_
          refine kl_k rfl rfl (n_call Tryd.call32 (w_impl_WayTimes hv26) ?_)
          rintro _ _ ⟨rfl, rfl⟩
          refine ⟨.inl (by (repeat (first | exact Sub.refl _ | exact Sub.nil _ | refine Sub.chunk (by repeat (first | exact Pick.here | apply Pick.there | apply Pick.seg)) (by rfl) ?_ | refine Sub.seg (by repeat (first | exact PickSeg.here | exact PickSeg.all | apply PickSeg.there | apply PickSeg.seg)) ?_ | exact Sub.seg0 (by repeat (first | exact PickSeg.here | exact PickSeg.all | apply PickSeg.there | apply PickSeg.seg)) | apply Sub.assoc))), ?_⟩
          refine kt_one ?_
          refine kl_k rfl rfl (n_call Tryd.call31 (w_impl_WayAdd hv30) ?_)
          rintro _ _ ⟨rfl, rfl⟩
          refine ⟨.inl (by (repeat (first | exact Sub.refl _ | exact Sub.nil _ | refine Sub.chunk (by repeat (first | exact Pick.here | apply Pick.there | apply Pick.seg)) (by rfl) ?_ | refine Sub.seg (by repeat (first | exact PickSeg.here | exact PickSeg.all | apply PickSeg.there | apply PickSeg.seg)) ?_ | exact Sub.seg0 (by repeat (first | exact PickSeg.here | exact PickSeg.all | apply PickSeg.there | apply PickSeg.seg)) | apply Sub.assoc))), ?_⟩
          refine kt_one ?_
          refine kl_k rfl rfl (s_B (e' := [.int .i64 v31.e, .int .i64 v31.n, .int .i64 v31.u]) Tryd.sizeOf37 ?_)
          refine ⟨.inl (by (repeat (first | exact Sub.refl _ | exact Sub.nil _ | refine Sub.chunk (by repeat (first | exact Pick.here | apply Pick.there | apply Pick.seg)) (by rfl) ?_ | refine Sub.seg (by repeat (first | exact PickSeg.here | exact PickSeg.all | apply PickSeg.there | apply PickSeg.seg)) ?_ | exact Sub.seg0 (by repeat (first | exact PickSeg.here | exact PickSeg.all | apply PickSeg.there | apply PickSeg.seg)) | apply Sub.assoc))), ?_⟩
          refine kt_nil ?_
          refine kn_then ?_
          exact ⟨p9_33, hd_mk trivial⟩
      · intro p9_33 _
        refine kn_then ?_
        refine kwp_seq ?_
        obtain ⟨j35, ej35, nj35, h19⟩ := e_idx h19
        obtain ⟨v37, hv36, h19⟩ := e_bind h19
        obtain ⟨v40, hv39, h19⟩ := e_bind h19
        refine kwp_tree (.quiet 0 (.quiet 1 (.quiet 2 (.quiet 3 (.quiet 4 (.quiet 5 (.quiet 6 (.one 7 (.one 8 (.one 9 (.quiet 10 .stop))))))))))) [] [⟨.pointer (some p4_4), 2, [[.int .i64 f0.den, .slice f01a f0.nums.length f01c]]⟩, ⟨.pointer (some p8_22), 5, [[.int .i64 ((gx s0.legs j21).f), .int .i64 ((gx s0.legs j21).t), .int .i64 ((gx s0.legs j21).e), .int .i64 ((gx s0.legs j21).n), .int .i64 ((gx s0.legs j21).u)]]⟩, ⟨.pointer (some p9_33), 3, [[.int .i64 v31.e, .int .i64 v31.n, .int .i64 v31.u]]⟩] drawMixed (by kernel_rfl) nopan (by (repeat (first | exact Sub.refl _ | exact Sub.nil _ | refine Sub.chunk (by repeat (first | exact Pick.here | apply Pick.there | apply Pick.seg)) (by rfl) ?_ | refine Sub.seg (by repeat (first | exact PickSeg.here | exact PickSeg.all | apply PickSeg.there | apply PickSeg.seg)) ?_ | exact Sub.seg0 (by repeat (first | exact PickSeg.here | exact PickSeg.all | apply PickSeg.there | apply PickSeg.seg)) | apply Sub.assoc))) ?_
        refine kt_d rfl rfl rfl (v_ldB Tryd.isAgg37 Tryd.sizeOf37) ?_
        refine kt_d rfl rfl rfl (v_fb fa_31_1) ?_
        refine kt_d rfl rfl rfl (v_ldb Tryd.isAgg29) ?_
        refine kt_d rfl rfl rfl (v_fb fa_48_1) ?_
        refine kt_d rfl rfl rfl (v_ldb Tryd.isAgg3) ?_
        refine kt_d rfl rfl rfl (v_ia ej35 nj35 Tryd.runUnderlying29 Tryd.sizeOf37) ?_
        refine kt_d rfl rfl rfl (v_lda (e := [_, _, _]) nj35 Tryd.isAgg37 Tryd.sizeOf37) ?_
        refine kt_one ?_
        refine kl_k rfl rfl (n_call Tryd.call32 (w_impl_WayTimes hv36) ?_)
        rintro _ _ ⟨rfl, rfl⟩
        refine ⟨.inl (by (repeat (first | exact Sub.refl _ | exact Sub.nil _ | refine Sub.chunk (by repeat (first | exact Pick.here | apply Pick.there | apply Pick.seg)) (by rfl) ?_ | refine Sub.seg (by repeat (first | exact PickSeg.here | exact PickSeg.all | apply PickSeg.there | apply PickSeg.seg)) ?_ | exact Sub.seg0 (by repeat (first | exact PickSeg.here | exact PickSeg.all | apply PickSeg.there | apply PickSeg.seg)) | apply Sub.assoc))), ?_⟩
        refine kt_one ?_
        refine kl_k rfl rfl (n_call Tryd.call31 (w_impl_WayAdd hv39) ?_)
        rintro _ _ ⟨rfl, rfl⟩
        refine ⟨.inl (by (repeat (first | exact Sub.refl _ | exact Sub.nil _ | refine Sub.chunk (by repeat (first | exact Pick.here | apply Pick.there | apply Pick.seg)) (by rfl) ?_ | refine Sub.seg (by repeat (first | exact PickSeg.here | exact PickSeg.all | apply PickSeg.there | apply PickSeg.seg)) ?_ | exact Sub.seg0 (by repeat (first | exact PickSeg.here | exact PickSeg.all | apply PickSeg.there | apply PickSeg.seg)) | apply Sub.assoc))), ?_⟩
        refine kt_one ?_
        refine kl_k rfl rfl (s_B (e' := [.int .i64 v40.e, .int .i64 v40.n, .int .i64 v40.u]) Tryd.sizeOf37 ?_)
        refine ⟨.inl (by (repeat (first | exact Sub.refl _ | exact Sub.nil _ | refine Sub.chunk (by repeat (first | exact Pick.here | apply Pick.there | apply Pick.seg)) (by rfl) ?_ | refine Sub.seg (by repeat (first | exact PickSeg.here | exact PickSeg.all | apply PickSeg.there | apply PickSeg.seg)) ?_ | exact Sub.seg0 (by repeat (first | exact PickSeg.here | exact PickSeg.all | apply PickSeg.there | apply PickSeg.seg)) | apply Sub.assoc))), ?_⟩
        refine kt_d rfl rfl rfl (v_as) ?_
        refine kt_nil ?_
        refine kn_then ?_
        refine kwp_ret ?_
        obtain rfl := e_some h19
        refine rc1 Tryd.isAgg37 Tryd.sizeOf37 [] ?_
        exact ⟨rfl, rfl⟩

set_option maxRecDepth 20000 in
theorem w_spec_FixMiss (s01a : Option Addr) (s01n : Nat) (s01c : Nat) (f01a : Option Addr) (f01n : Nat) (f01c : Nat) {s0 : Survey} {f0 : Fix} {index0 : Int} {r : Way × Bool} (h : p_spec_FixMiss s0 f0 index0 = some r) :
    Triple Tryd.prog 54 [.agg #[.int .i64 s0.st, .slice s01a s01n s01c], .agg #[.int .i64 f0.den, .slice f01a f01n f01c], .int .i64 index0] [⟨.slice s01a s01n s01c, 5, s0.legs.map encLeg⟩, ⟨.slice f01a f01n f01c, 3, f0.nums.map encWay⟩] [] (fun v ch => v = .tuple #[.agg #[.int .i64 r.1.e, .int .i64 r.1.n, .int .i64 r.1.u], .bool r.2] ∧ ch = []) := by
  refine triple_start 48 Tryd.func54 Tryd.ntmps54 rfl rfl (fun w0 => ?_)
  refine k_len (c := s01c) (fun hl1 => ?_)
  subst hl1
  refine k_len (c := f01c) (fun hl2 => ?_)
  subst hl2
  unfold p_spec_FixMiss at h
  refine kwp_seq ?_
  refine kwp_region ?_
  refine kk (n_box (e := [.int .i64 s0.st, .slice s01a s0.legs.length s01c]) 2 (fun p3_3 => ?_))
  refine kk (n_box (e := [.int .i64 f0.den, .slice f01a f0.nums.length f01c]) 2 (fun p4_4 => ?_))
  refine kk (n_alloc (e := [.int .i64 0, .int .i64 0, .int .i64 0]) 3 Tryd.zeroValue37 (fun p6_5 => ?_))
  refine kd (v_as) ?_
  refine kops_nil ?_
  refine kn_then ?_
  refine kwp_seq ?_
  refine kwp_seq ?_
  refine kwp_cutE (inv := [(2, .int .i64 index0), (3, .pointer (some p3_3)), (4, .pointer (some p4_4)), (6, .pointer (some p6_5))]) (fun (z : Bool) (y : Unit) => [(21, .bool z)]) (fun (z : Bool) (y : Unit) => [⟨.pointer (some p3_3), 2, [[.int .i64 s0.st, .slice s01a s0.legs.length s01c]]⟩, ⟨.pointer (some p4_4), 2, [[.int .i64 f0.den, .slice f01a f0.nums.length f01c]]⟩, ⟨.pointer (some p6_5), 3, [[.int .i64 0, .int .i64 0, .int .i64 0]]⟩]) (fun _ _ => True) h ?_ ?_
  · intro t9 h7
    refine kwp_region ?_
    refine kd (v_ldB Tryd.isAgg25 Tryd.sizeOf25) ?_
    refine kd (v_ldB Tryd.isAgg31 Tryd.sizeOf31) ?_
    obtain ⟨v11, hv10, h7⟩ := e_bind h7
    refine kk (n_call Tryd.call45 (w_spec_FixValid s01a s0.legs.length s01c f01a f0.nums.length f01c hv10) ?_)
    rintro _ _ ⟨rfl, rfl⟩
    refine kd (v_not) ?_
    refine kd (v_mv) ?_
    refine kops_split 13 rfl (fun hb13 => ?_) (fun hb13 => ?_)
    ·
      replace h7 := e_t h7 hb13
      refine kskip hb13 ?_
      refine kskip hb13 ?_
      refine kskip hb13 ?_
      refine kskip hb13 ?_
      refine kskip hb13 ?_
      refine kskip hb13 ?_
      refine kskip hb13 ?_
      refine kd (v_pt hb13) ?_
      refine kops_nil ?_
      refine kn_then ?_
      obtain rfl := e_some h7
      exact ⟨(), hd_mk trivial⟩
    ·
      replace h7 := e_f h7 hb13
      refine kgd hb13 (v_mv) ?_
      refine kgd hb13 (v_fb fa_25_1) ?_
      refine kgd hb13 (v_ldb Tryd.isAgg23) ?_
      refine kgd hb13 (v_len Tryd.runUnderlying23) ?_
      refine kgd hb13 (v_sub) ?_
      obtain ⟨v15, hv14, h7⟩ := e_bind h7
      refine kgk hb13 (n_call Tryd.call88 (w_spec_l1In hv14) ?_)
      rintro _ _ ⟨rfl, rfl⟩
      refine kgd hb13 (v_not) ?_
      refine kd (v_pf hb13) ?_
      refine kops_nil ?_
      refine kn_then ?_
      obtain rfl := e_some h7
      exact ⟨(), hd_mk trivial⟩
  · intro x6 y18 _ h19
    refine kn_then ?_
    refine kwp_cond rfl (fun hc20 => ?_) (fun hc20 => ?_)
    ·
      replace h19 := e_t h19 hc20
      refine kwp_seq ?_
      refine kwp_region ?_
      refine kd (v_bd [] [.int .i64 0, .int .i64 0, .int .i64 0] Tryd.zeroValue37 Tryd.runUnderlying37 pl_37) ?_
      refine kk (s_B (e' := [.int .i64 0, .int .i64 0, .int .i64 0]) Tryd.sizeOf37 ?_)
      refine kd (v_as) ?_
      refine kops_nil ?_
      refine kn_then ?_
      refine kwp_ret ?_
      refine kr_then ?_
      obtain rfl := e_some h19
      refine rc1 Tryd.isAgg37 Tryd.sizeOf37 [] ?_
      exact ⟨rfl, rfl⟩
    ·
      replace h19 := e_f h19 hc20
      refine kwp_skip ?_
      refine kn_then ?_
      refine kwp_seq ?_
      refine kwp_region ?_
      refine kd (v_fb fa_25_1) ?_
      refine kd (v_ldb Tryd.isAgg23) ?_
      refine kd (v_mv) ?_
      obtain ⟨j21, ej21, nj21, h19⟩ := e_idx h19
      refine kd (v_ia ej21 nj21 Tryd.runUnderlying23 Tryd.sizeOf48) ?_
      refine kd (v_lda (e := [_, _, _, _, _]) nj21 Tryd.isAgg48 Tryd.sizeOf48) ?_
      refine kk (n_alloc (e := [.int .i64 0, .int .i64 0, .int .i64 0, .int .i64 0, .int .i64 0]) 5 Tryd.zeroValue48 (fun p8_22 => ?_))
      refine kk (s_B (e' := [.int .i64 ((gx s0.legs j21).f), .int .i64 ((gx s0.legs j21).t), .int .i64 ((gx s0.legs j21).e), .int .i64 ((gx s0.legs j21).n), .int .i64 ((gx s0.legs j21).u)]) Tryd.sizeOf48 ?_)
      refine kops_nil ?_
      refine kn_then ?_
      refine kwp_seq ?_
      obtain ⟨v24, hv23, h19⟩ := e_bind h19
      obtain ⟨v27, hv26, h19⟩ := e_bind h19
      obtain ⟨j29, ej29, nj29, h19⟩ := e_idx h19
      obtain ⟨v31, hv30, h19⟩ := e_bind h19
      obtain ⟨j33, ej33, nj33, h19⟩ := e_idx h19
      obtain ⟨v35, hv34, h19⟩ := e_bind h19
      obtain ⟨v38, hv37, h19⟩ := e_bind h19
      refine kwp_tree (.quiet 0 (.quiet 2 (.quiet 3 (.quiet 5 (.quiet 6 (.quiet 7 (.quiet 8 (.quiet 9 (.quiet 10 (.quiet 12 (.quiet 13 (.quiet 14 (.quiet 15 (.quiet 16 (.quiet 17 (.one 1 (.one 4 (.one 11 (.one 18 (.one 19 (.one 20 (.quiet 21 .stop)))))))))))))))))))))) [] [⟨.pointer (some p4_4), 2, [[.int .i64 f0.den, .slice f01a f0.nums.length f01c]]⟩, ⟨.pointer (some p8_22), 5, [[.int .i64 ((gx s0.legs j21).f), .int .i64 ((gx s0.legs j21).t), .int .i64 ((gx s0.legs j21).e), .int .i64 ((gx s0.legs j21).n), .int .i64 ((gx s0.legs j21).u)]]⟩] drawMixed (by kernel_rfl) nopan (by (repeat (first | exact Sub.refl _ | exact Sub.nil _ | refine Sub.chunk (by repeat (first | exact Pick.here | apply Pick.there | apply Pick.seg)) (by rfl) ?_ | refine Sub.seg (by repeat (first | exact PickSeg.here | exact PickSeg.all | apply PickSeg.there | apply PickSeg.seg)) ?_ | exact Sub.seg0 (by repeat (first | exact PickSeg.here | exact PickSeg.all | apply PickSeg.there | apply PickSeg.seg)) | apply Sub.assoc))) ?_
      refine kt_d rfl rfl rfl (v_ldB Tryd.isAgg48 Tryd.sizeOf48) ?_
      refine kt_d rfl rfl rfl (v_fb fa_31_0) ?_
      refine kt_d rfl rfl rfl (v_ldb Tryd.isAgg3) ?_
      refine kt_d rfl rfl rfl (v_fb fa_31_1) ?_
      refine kt_d rfl rfl rfl (v_ldb Tryd.isAgg29) ?_
      refine kt_d rfl rfl rfl (v_fb fa_48_0) ?_
      refine kt_d rfl rfl rfl (v_ldb Tryd.isAgg3) ?_
      refine kt_d rfl rfl rfl (v_ia ej29 nj29 Tryd.runUnderlying29 Tryd.sizeOf37) ?_
      refine kt_d rfl rfl rfl (v_lda (e := [_, _, _]) nj29 Tryd.isAgg37 Tryd.sizeOf37) ?_
      refine kt_d rfl rfl rfl (v_fb fa_31_1) ?_
      refine kt_d rfl rfl rfl (v_ldb Tryd.isAgg29) ?_
      refine kt_d rfl rfl rfl (v_fb fa_48_1) ?_
      refine kt_d rfl rfl rfl (v_ldb Tryd.isAgg3) ?_
      refine kt_d rfl rfl rfl (v_ia ej33 nj33 Tryd.runUnderlying29 Tryd.sizeOf37) ?_
      refine kt_d rfl rfl rfl (v_lda (e := [_, _, _]) nj33 Tryd.isAgg37 Tryd.sizeOf37) ?_
      refine kt_one ?_
      refine kl_k rfl rfl (n_call Tryd.call100 (w_spec_l1Way hv23) ?_)
      rintro _ _ ⟨rfl, rfl⟩
      refine ⟨.inl (by (repeat (first | exact Sub.refl _ | exact Sub.nil _ | refine Sub.chunk (by repeat (first | exact Pick.here | apply Pick.there | apply Pick.seg)) (by rfl) ?_ | refine Sub.seg (by repeat (first | exact PickSeg.here | exact PickSeg.all | apply PickSeg.there | apply PickSeg.seg)) ?_ | exact Sub.seg0 (by repeat (first | exact PickSeg.here | exact PickSeg.all | apply PickSeg.there | apply PickSeg.seg)) | apply Sub.assoc))), ?_⟩
      refine kt_one ?_
      refine kl_k rfl rfl (n_call Tryd.call99 (w_spec_WayTimes hv26) ?_)
      rintro _ _ ⟨rfl, rfl⟩
      refine ⟨.inl (by (repeat (first | exact Sub.refl _ | exact Sub.nil _ | refine Sub.chunk (by repeat (first | exact Pick.here | apply Pick.there | apply Pick.seg)) (by rfl) ?_ | refine Sub.seg (by repeat (first | exact PickSeg.here | exact PickSeg.all | apply PickSeg.there | apply PickSeg.seg)) ?_ | exact Sub.seg0 (by repeat (first | exact PickSeg.here | exact PickSeg.all | apply PickSeg.there | apply PickSeg.seg)) | apply Sub.assoc))), ?_⟩
      refine kt_one ?_
      refine kl_k rfl rfl (n_call Tryd.call78 (w_spec_WayAdd hv30) ?_)
      rintro _ _ ⟨rfl, rfl⟩
      refine ⟨.inl (by (repeat (first | exact Sub.refl _ | exact Sub.nil _ | refine Sub.chunk (by repeat (first | exact Pick.here | apply Pick.there | apply Pick.seg)) (by rfl) ?_ | refine Sub.seg (by repeat (first | exact PickSeg.here | exact PickSeg.all | apply PickSeg.there | apply PickSeg.seg)) ?_ | exact Sub.seg0 (by repeat (first | exact PickSeg.here | exact PickSeg.all | apply PickSeg.there | apply PickSeg.seg)) | apply Sub.assoc))), ?_⟩
      refine kt_one ?_
      refine kl_k rfl rfl (n_call Tryd.call99 (w_spec_WayTimes hv34) ?_)
      rintro _ _ ⟨rfl, rfl⟩
      refine ⟨.inl (by (repeat (first | exact Sub.refl _ | exact Sub.nil _ | refine Sub.chunk (by repeat (first | exact Pick.here | apply Pick.there | apply Pick.seg)) (by rfl) ?_ | refine Sub.seg (by repeat (first | exact PickSeg.here | exact PickSeg.all | apply PickSeg.there | apply PickSeg.seg)) ?_ | exact Sub.seg0 (by repeat (first | exact PickSeg.here | exact PickSeg.all | apply PickSeg.there | apply PickSeg.seg)) | apply Sub.assoc))), ?_⟩
      refine kt_one ?_
      refine kl_k rfl rfl (n_call Tryd.call78 (w_spec_WayAdd hv37) ?_)
      rintro _ _ ⟨rfl, rfl⟩
      refine ⟨.inl (by (repeat (first | exact Sub.refl _ | exact Sub.nil _ | refine Sub.chunk (by repeat (first | exact Pick.here | apply Pick.there | apply Pick.seg)) (by rfl) ?_ | refine Sub.seg (by repeat (first | exact PickSeg.here | exact PickSeg.all | apply PickSeg.there | apply PickSeg.seg)) ?_ | exact Sub.seg0 (by repeat (first | exact PickSeg.here | exact PickSeg.all | apply PickSeg.there | apply PickSeg.seg)) | apply Sub.assoc))), ?_⟩
      refine kt_one ?_
      refine kl_k rfl rfl (s_B (e' := [.int .i64 v38.e, .int .i64 v38.n, .int .i64 v38.u]) Tryd.sizeOf37 ?_)
      refine ⟨.inl (by (repeat (first | exact Sub.refl _ | exact Sub.nil _ | refine Sub.chunk (by repeat (first | exact Pick.here | apply Pick.there | apply Pick.seg)) (by rfl) ?_ | refine Sub.seg (by repeat (first | exact PickSeg.here | exact PickSeg.all | apply PickSeg.there | apply PickSeg.seg)) ?_ | exact Sub.seg0 (by repeat (first | exact PickSeg.here | exact PickSeg.all | apply PickSeg.there | apply PickSeg.seg)) | apply Sub.assoc))), ?_⟩
      refine kt_d rfl rfl rfl (v_as) ?_
      refine kt_nil ?_
      refine kn_then ?_
      refine kwp_ret ?_
      obtain rfl := e_some h19
      refine rc1 Tryd.isAgg37 Tryd.sizeOf37 [] ?_
      exact ⟨rfl, rfl⟩

end Go.Proofs.YtnibfmofkamjoaaDoor
