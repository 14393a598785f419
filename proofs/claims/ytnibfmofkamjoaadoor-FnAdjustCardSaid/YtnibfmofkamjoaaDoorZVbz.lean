/- What the plain programs return, the functions of the program return; no condition. -/
import Derived.Test.YtnibfmofkamjoaaDoorZQ
import Derived.Test.YtnibfmofkamjoaaDoorZFa
import Derived.Test.YtnibfmofkamjoaaDoorZVbq
namespace Go.Proofs.YtnibfmofkamjoaaDoor
open Go
set_option linter.unusedVariables false
set_option linter.unusedSimpArgs false

set_option maxRecDepth 20000 in
theorem w_impl_Misclosure (s01a : Option Addr) (s01n : Nat) (s01c : Nat) {s0 : Survey} {index0 : Int} {r : Way × Bool} (h : p_impl_Misclosure s0 index0 = some r) :
    Triple Tryd.prog 56 [.agg #[.int .i64 s0.st, .slice s01a s01n s01c], .int .i64 index0] [⟨.slice s01a s01n s01c, 5, s0.legs.map encLeg⟩] [] (fun v ch => v = .tuple #[.agg #[.int .i64 r.1.e, .int .i64 r.1.n, .int .i64 r.1.u], .bool r.2] ∧ ch = []) := by
  refine triple_start 49 Tryd.func56 Tryd.ntmps56 rfl rfl (fun w0 => ?_)
  refine k_len (c := s01c) (fun hl1 => ?_)
  subst hl1
  unfold p_impl_Misclosure at h
  refine kwp_seq ?_
  refine kwp_region ?_
  refine kk (n_box (e := [.int .i64 s0.st, .slice s01a s0.legs.length s01c]) 2 (fun p2_2 => ?_))
  refine kk (n_alloc (e := [.int .i64 0, .int .i64 0, .int .i64 0]) 3 Tryd.zeroValue37 (fun p4_3 => ?_))
  refine kd (v_as) ?_
  refine kops_nil ?_
  refine kn_then ?_
  refine kwp_seq ?_
  refine kwp_seq ?_
  refine kwp_cutE (inv := [(1, .int .i64 index0), (2, .pointer (some p2_2)), (4, .pointer (some p4_3))]) (fun (z : Bool) (y : Unit) => [(21, .bool z)]) (fun (z : Bool) (y : Unit) => [⟨.pointer (some p2_2), 2, [[.int .i64 s0.st, .slice s01a s0.legs.length s01c]]⟩, ⟨.pointer (some p4_3), 3, [[.int .i64 0, .int .i64 0, .int .i64 0]]⟩]) (fun _ _ => True) h ?_ ?_
  · intro t7 h5
    refine kwp_region ?_
    refine kd (v_ldB Tryd.isAgg25 Tryd.sizeOf25) ?_
    obtain ⟨v9, hv8, h5⟩ := e_bind h5
    refine kk (n_call Tryd.call29 (w_impl_SurveyValid s01a s0.legs.length s01c hv8) ?_)
    rintro _ _ ⟨rfl, rfl⟩
    refine kd (v_not) ?_
    refine kd (v_mv) ?_
    refine kops_split 14 rfl (fun hb11 => ?_) (fun hb11 => ?_)
    ·
      replace h5 := e_t h5 hb11
      refine kskip hb11 ?_
      refine kskip hb11 ?_
      refine kskip hb11 ?_
      refine kskip hb11 ?_
      refine kskip hb11 ?_
      refine kskip hb11 ?_
      refine kd (v_pt hb11) ?_
      refine kops_nil ?_
      refine kn_then ?_
      obtain rfl := e_some h5
      exact ⟨(), hd_mk trivial⟩
    ·
      replace h5 := e_f h5 hb11
      refine kgd hb11 (v_mv) ?_
      refine kgd hb11 (v_fb fa_25_1) ?_
      refine kgd hb11 (v_ldb Tryd.isAgg23) ?_
      refine kgd hb11 (v_len Tryd.runUnderlying23) ?_
      obtain ⟨v13, hv12, h5⟩ := e_bind h5
      refine kgk hb11 (n_call Tryd.call75 (w_impl_isIndex hv12) ?_)
      rintro _ _ ⟨rfl, rfl⟩
      refine kgd hb11 (v_not) ?_
      refine kd (v_pf hb11) ?_
      refine kops_nil ?_
      refine kn_then ?_
      obtain rfl := e_some h5
      exact ⟨(), hd_mk trivial⟩
  · intro x4 y16 _ h17
    refine kn_then ?_
    refine kwp_cond rfl (fun hc18 => ?_) (fun hc18 => ?_)
    ·
      replace h17 := e_t h17 hc18
      refine kwp_seq ?_
      refine kwp_region ?_
      refine kd (v_bd [] [.int .i64 0, .int .i64 0, .int .i64 0] Tryd.zeroValue37 Tryd.runUnderlying37 pl_37) ?_
      refine kk (s_B (e' := [.int .i64 0, .int .i64 0, .int .i64 0]) Tryd.sizeOf37 ?_)
      refine kd (v_as) ?_
      refine kops_nil ?_
      refine kn_then ?_
      refine kwp_ret ?_
      refine kr_then ?_
      obtain rfl := e_some h17
      refine rc1 Tryd.isAgg37 Tryd.sizeOf37 [] ?_
      exact ⟨rfl, rfl⟩
    ·
      replace h17 := e_f h17 hc18
      refine kwp_skip ?_
      refine kn_then ?_
      refine kwp_seq ?_
      refine kwp_region ?_
      refine kd (v_fb fa_25_1) ?_
      refine kd (v_ldb Tryd.isAgg23) ?_
      refine kd (v_mv) ?_
      obtain ⟨j19, ej19, nj19, h17⟩ := e_idx h17
      refine kd (v_ia ej19 nj19 Tryd.runUnderlying23 Tryd.sizeOf48) ?_
      refine kd (v_lda (e := [_, _, _, _, _]) nj19 Tryd.isAgg48 Tryd.sizeOf48) ?_
      refine kk (n_alloc (e := [.int .i64 0, .int .i64 0, .int .i64 0, .int .i64 0, .int .i64 0]) 5 Tryd.zeroValue48 (fun p6_20 => ?_))
      refine kk (s_B (e' := [.int .i64 ((gx s0.legs j19).f), .int .i64 ((gx s0.legs j19).t), .int .i64 ((gx s0.legs j19).e), .int .i64 ((gx s0.legs j19).n), .int .i64 ((gx s0.legs j19).u)]) Tryd.sizeOf48 ?_)
      refine kops_nil ?_
      refine kn_then ?_
      refine kwp_seq ?_
      refine kwp_region ?_
      refine kd (v_ldB Tryd.isAgg25 Tryd.sizeOf25) ?_
      refine kd (v_fb fa_48_0) ?_
      refine kd (v_ldb Tryd.isAgg3) ?_
      obtain ⟨⟨v22, v23⟩, hv21, h17⟩ := e_bind h17
      refine kk (n_call Tryd.call72 (w_impl_TreePlace s01a s0.legs.length s01c hv21) ?_)
      rintro _ _ ⟨rfl, rfl⟩
      refine kd (v_mv) ?_
      refine kd (v_ex) ?_
      refine kd (v_ex) ?_
      refine kk (n_alloc (e := [.int .i64 0, .int .i64 0, .int .i64 0]) 3 Tryd.zeroValue37 (fun p7_26 => ?_))
      refine kk (s_B (e' := [.int .i64 v22.e, .int .i64 v22.n, .int .i64 v22.u]) Tryd.sizeOf37 ?_)
      refine kd (v_as) ?_
      refine kops_nil ?_
      refine kn_then ?_
      refine kwp_seq ?_
      refine kwp_region ?_
      refine kd (v_ldB Tryd.isAgg25 Tryd.sizeOf25) ?_
      refine kd (v_fb fa_48_1) ?_
      refine kd (v_ldb Tryd.isAgg3) ?_
      obtain ⟨⟨v28, v29⟩, hv27, h17⟩ := e_bind h17
      refine kk (n_call Tryd.call72 (w_impl_TreePlace s01a s0.legs.length s01c hv27) ?_)
      rintro _ _ ⟨rfl, rfl⟩
      refine kd (v_mv) ?_
      refine kd (v_ex) ?_
      refine kd (v_ex) ?_
      refine kk (n_alloc (e := [.int .i64 0, .int .i64 0, .int .i64 0]) 3 Tryd.zeroValue37 (fun p9_32 => ?_))
      refine kk (s_B (e' := [.int .i64 v28.e, .int .i64 v28.n, .int .i64 v28.u]) Tryd.sizeOf37 ?_)
      refine kd (v_as) ?_
      refine kops_nil ?_
      refine kn_then ?_
      refine kwp_seq ?_
      obtain ⟨v34, hv33, h17⟩ := e_bind h17
      obtain ⟨v37, hv36, h17⟩ := e_bind h17
      obtain ⟨v40, hv39, h17⟩ := e_bind h17
      obtain ⟨v43, hv42, h17⟩ := e_bind h17
      refine kwp_tree (.quiet 0 (.quiet 1 (.quiet 4 (.one 2 (.one 3 (.one 5 (.one 6 (.one 7 (.quiet 8 .stop))))))))) [] [⟨.pointer (some p6_20), 5, [[.int .i64 ((gx s0.legs j19).f), .int .i64 ((gx s0.legs j19).t), .int .i64 ((gx s0.legs j19).e), .int .i64 ((gx s0.legs j19).n), .int .i64 ((gx s0.legs j19).u)]]⟩, ⟨.pointer (some p7_26), 3, [[.int .i64 v22.e, .int .i64 v22.n, .int .i64 v22.u]]⟩, ⟨.pointer (some p9_32), 3, [[.int .i64 v28.e, .int .i64 v28.n, .int .i64 v28.u]]⟩] drawMixed (by kernel_rfl) nopan (by (repeat (first | exact Sub.refl _ | exact Sub.nil _ | refine Sub.chunk (by repeat (first | exact Pick.here | apply Pick.there | apply Pick.seg)) (by rfl) ?_ | refine Sub.seg (by repeat (first | exact PickSeg.here | exact PickSeg.all | apply PickSeg.there | apply PickSeg.seg)) ?_ | exact Sub.seg0 (by repeat (first | exact PickSeg.here | exact PickSeg.all | apply PickSeg.there | apply PickSeg.seg)) | apply Sub.assoc))) ?_
      refine kt_d rfl rfl rfl (v_ldB Tryd.isAgg37 Tryd.sizeOf37) ?_
      refine kt_d rfl rfl rfl (v_ldB Tryd.isAgg48 Tryd.sizeOf48) ?_
      refine kt_d rfl rfl rfl (v_ldB Tryd.isAgg37 Tryd.sizeOf37) ?_
      refine kt_one ?_
      refine kl_k rfl rfl (n_call Tryd.call76 (w_impl_legWay hv33) ?_)
      rintro _ _ ⟨rfl, rfl⟩
      refine ⟨.inl (by (repeat (first | exact Sub.refl _ | exact Sub.nil _ | refine Sub.chunk (by repeat (first | exact Pick.here | apply Pick.there | apply Pick.seg)) (by rfl) ?_ | refine Sub.seg (by repeat (first | exact PickSeg.here | exact PickSeg.all | apply PickSeg.there | apply PickSeg.seg)) ?_ | exact Sub.seg0 (by repeat (first | exact PickSeg.here | exact PickSeg.all | apply PickSeg.there | apply PickSeg.seg)) | apply Sub.assoc))), ?_⟩
      refine kt_one ?_
      refine kl_k rfl rfl (n_call Tryd.call31 (w_impl_WayAdd hv36) ?_)
      rintro _ _ ⟨rfl, rfl⟩
      refine ⟨.inl (by (repeat (first | exact Sub.refl _ | exact Sub.nil _ | refine Sub.chunk (by repeat (first | exact Pick.here | apply Pick.there | apply Pick.seg)) (by rfl) ?_ | refine Sub.seg (by repeat (first | exact PickSeg.here | exact PickSeg.all | apply PickSeg.there | apply PickSeg.seg)) ?_ | exact Sub.seg0 (by repeat (first | exact PickSeg.here | exact PickSeg.all | apply PickSeg.there | apply PickSeg.seg)) | apply Sub.assoc))), ?_⟩
      refine kt_one ?_
      refine kl_k rfl rfl (n_call Tryd.call32 (w_impl_WayTimes hv39) ?_)
      rintro _ _ ⟨rfl, rfl⟩
      refine ⟨.inl (by (repeat (first | exact Sub.refl _ | exact Sub.nil _ | refine Sub.chunk (by repeat (first | exact Pick.here | apply Pick.there | apply Pick.seg)) (by rfl) ?_ | refine Sub.seg (by repeat (first | exact PickSeg.here | exact PickSeg.all | apply PickSeg.there | apply PickSeg.seg)) ?_ | exact Sub.seg0 (by repeat (first | exact PickSeg.here | exact PickSeg.all | apply PickSeg.there | apply PickSeg.seg)) | apply Sub.assoc))), ?_⟩
      refine kt_one ?_
      refine kl_k rfl rfl (n_call Tryd.call31 (w_impl_WayAdd hv42) ?_)
      rintro _ _ ⟨rfl, rfl⟩
      refine ⟨.inl (by (repeat (first | exact Sub.refl _ | exact Sub.nil _ | refine Sub.chunk (by repeat (first | exact Pick.here | apply Pick.there | apply Pick.seg)) (by rfl) ?_ | refine Sub.seg (by repeat (first | exact PickSeg.here | exact PickSeg.all | apply PickSeg.there | apply PickSeg.seg)) ?_ | exact Sub.seg0 (by repeat (first | exact PickSeg.here | exact PickSeg.all | apply PickSeg.there | apply PickSeg.seg)) | apply Sub.assoc))), ?_⟩
      refine kt_one ?_
      refine kl_k rfl rfl (s_B (e' := [.int .i64 v43.e, .int .i64 v43.n, .int .i64 v43.u]) Tryd.sizeOf37 ?_)
      refine ⟨.inl (by (repeat (first | exact Sub.refl _ | exact Sub.nil _ | refine Sub.chunk (by repeat (first | exact Pick.here | apply Pick.there | apply Pick.seg)) (by rfl) ?_ | refine Sub.seg (by repeat (first | exact PickSeg.here | exact PickSeg.all | apply PickSeg.there | apply PickSeg.seg)) ?_ | exact Sub.seg0 (by repeat (first | exact PickSeg.here | exact PickSeg.all | apply PickSeg.there | apply PickSeg.seg)) | apply Sub.assoc))), ?_⟩
      refine kt_d rfl rfl rfl (v_as) ?_
      refine kt_nil ?_
      refine kn_then ?_
      refine kwp_ret ?_
      obtain rfl := e_some h17
      refine rc1 Tryd.isAgg37 Tryd.sizeOf37 [] ?_
      exact ⟨rfl, rfl⟩

set_option maxRecDepth 20000 in
theorem w_impl_Closes (s01a : Option Addr) (s01n : Nat) (s01c : Nat) {s0 : Survey} {r : Bool} (h : p_impl_Closes s0 = some r) :
    Triple Tryd.prog 34 [.agg #[.int .i64 s0.st, .slice s01a s01n s01c]] [⟨.slice s01a s01n s01c, 5, s0.legs.map encLeg⟩] [] (fun v ch => v = .bool r ∧ ch = []) := by
  refine triple_start 25 Tryd.func34 Tryd.ntmps34 rfl rfl (fun w0 => ?_)
  refine k_len (c := s01c) (fun hl1 => ?_)
  subst hl1
  unfold p_impl_Closes at h
  refine kwp_seq ?_
  refine kwp_region ?_
  refine kk (n_box (e := [.int .i64 s0.st, .slice s01a s0.legs.length s01c]) 2 (fun p1_2 => ?_))
  refine kd (v_as) ?_
  refine kops_nil ?_
  refine kn_then ?_
  refine kwp_seq ?_
  refine kwp_seq ?_
  refine kwp_region ?_
  refine kd (v_ldB Tryd.isAgg25 Tryd.sizeOf25) ?_
  obtain ⟨v4, hv3, h⟩ := e_bind h
  refine kk (n_call Tryd.call29 (w_impl_SurveyValid s01a s0.legs.length s01c hv3) ?_)
  rintro _ _ ⟨rfl, rfl⟩
  refine kd (v_not) ?_
  refine kops_nil ?_
  refine kn_then ?_
  refine kwp_cond rfl (fun hc6 => ?_) (fun hc6 => ?_)
  ·
    replace h := e_t h hc6
    refine kwp_seq ?_
    refine kwp_region ?_
    refine kd (v_as) ?_
    refine kops_nil ?_
    refine kn_then ?_
    refine kwp_ret ?_
    refine kr_then ?_
    obtain rfl := e_some h
    refine r1 [] ?_
    exact ⟨rfl, rfl⟩
  ·
    replace h := e_f h hc6
    refine kwp_skip ?_
    refine kn_then ?_
    refine kwp_seq ?_
    refine kwp_seq ?_
    refine kwp_region ?_
    refine kd (v_fb fa_25_1) ?_
    refine kd (v_ldb Tryd.isAgg23) ?_
    refine kd (v_len Tryd.runUnderlying23) ?_
    refine kd (v_mv) ?_
    refine kops_nil ?_
    refine kn_then ?_
    refine kwp_cutO (inv := []) (fun (z : Unit) (y : Unit) => []) (fun (z : Unit) (y : Unit) => []) (fun _ _ => True) h ?_ ?_
    · intro t9 h7 g8
      refine kwp_block ?_
      refine kwp_loopE (inv := [(1, .pointer (some p1_2)), (11, .int .i64 ((s0.legs.length : Nat) : Int))]) (fun (z : Int) (y : Unit) => [(12, .int .i64 z)]) (fun (z : Int) (y : Unit) => [⟨.pointer (some p1_2), 2, [[.int .i64 s0.st, .slice s01a s0.legs.length s01c]]⟩]) (fun _ _ => True) h7 ⟨(), hd_mk trivial⟩ ?_
      intro x10 y14 b11 _ h12
      unfold p_impl_Closes_L0 at h12
      refine kwp_seq ?_
      refine kwp_region ?_
      refine kd (v_cmp) ?_
      refine kops_nil ?_
      refine kn_then ?_
      refine kwp_seq ?_
      refine kwp_cond rfl (fun hc15 => ?_) (fun hc15 => ?_)
      ·
        replace h12 := e_t h12 hc15
        refine kwp_skip ?_
        refine kn_then ?_
        refine kwp_seq ?_
        refine kwp_block ?_
        refine kwp_seq ?_
        refine kwp_region ?_
        refine kd (v_mv) ?_
        refine kd (v_as) ?_
        refine kops_nil ?_
        refine kn_then ?_
        refine kwp_seq ?_
        refine kwp_region ?_
        refine kd (v_ldB Tryd.isAgg25 Tryd.sizeOf25) ?_
        refine kd (v_mv) ?_
        obtain ⟨⟨v17, v18⟩, hv16, h12⟩ := e_bind h12
        refine kk (n_call Tryd.call56 (w_impl_Misclosure s01a s0.legs.length s01c hv16) ?_)
        rintro _ _ ⟨rfl, rfl⟩
        refine kd (v_mv) ?_
        refine kd (v_ex) ?_
        refine kd (v_ex) ?_
        refine kk (n_alloc (e := [.int .i64 0, .int .i64 0, .int .i64 0]) 3 Tryd.zeroValue37 (fun p4_21 => ?_))
        refine kk (s_B (e' := [.int .i64 v17.e, .int .i64 v17.n, .int .i64 v17.u]) Tryd.sizeOf37 ?_)
        refine kd (v_as) ?_
        refine kops_nil ?_
        refine kn_then ?_
        refine kwp_seq ?_
        refine kwp_region ?_
        refine kd (v_ldB Tryd.isAgg37 Tryd.sizeOf37) ?_
        refine kd (v_bd [] [.int .i64 0, .int .i64 0, .int .i64 0] Tryd.zeroValue37 Tryd.runUnderlying37 pl_37) ?_
        refine kd (v_nea eg_37 he_37 hp_37 (eqf_37 _ _ _ _ _ _)) ?_
        refine kops_nil ?_
        refine kn_then ?_
        refine kwp_cond rfl (fun hc22 => ?_) (fun hc22 => ?_)
        ·
          replace h12 := e_t h12 hc22
          refine kwp_seq ?_
          refine kwp_region ?_
          refine kd (v_as) ?_
          refine kops_nil ?_
          refine kn_then ?_
          refine kwp_ret ?_
          refine kr_block ?_
          refine kr_then ?_
          refine kr_then ?_
          obtain rfl := e_some h12
          refine k_out ?_ rfl
          rintro rfl
          refine kr_block ?_
          refine kr_then ?_
          refine kr_then ?_
          obtain rfl := e_some g8
          refine r1 [] ?_
          exact ⟨rfl, rfl⟩
        ·
          replace h12 := e_f h12 hc22
          refine kwp_skip ?_
          refine kn_block ?_
          refine kn_then ?_
          refine kwp_region ?_
          refine kd (v_add) ?_
          refine kd (v_mv) ?_
          refine kops_nil ?_
          refine kn_then ?_
          obtain rfl := e_some h12
          exact ⟨_, (), rfl, hd_mk trivial⟩
      ·
        replace h12 := e_f h12 hc15
        refine kwp_exit ?_
        refine ke_then ?_
        obtain rfl := e_some h12
        refine k_out ?_ rfl
        rintro rfl
        refine ke_block ?_
        exact ⟨_, (), rfl, hd_mk trivial⟩
    · intro z23 y24 _ h25
      refine kn_then ?_
      refine kwp_seq ?_
      refine kwp_region ?_
      refine kd (v_as) ?_
      refine kops_nil ?_
      refine kn_then ?_
      refine kwp_ret ?_
      obtain rfl := e_some h25
      refine r1 [] ?_
      exact ⟨rfl, rfl⟩

end Go.Proofs.YtnibfmofkamjoaaDoor
