/- What the plain programs return, the functions of the program return; no condition. -/
import Derived.Test.YtnibfmofkamjoaaDoorZQ
import Derived.Test.YtnibfmofkamjoaaDoorZFa
import Derived.Test.YtnibfmofkamjoaaDoorZVbp
import Derived.Test.YtnibfmofkamjoaaDoorZVbv
namespace Go.Proofs.YtnibfmofkamjoaaDoor
open Go
set_option linter.unusedVariables false
set_option linter.unusedSimpArgs false

set_option maxRecDepth 20000 in
theorem w_math_bits_OnesCount64  {x0 : Int} {r : Int} (h : p_math_bits_OnesCount64 x0 = some r) :
    Triple Tryd.prog 122 [.int .u64 x0] [] [] (fun v ch => v = .int .i64 r ∧ ch = []) := by
  refine triple_start 35 Tryd.func122 Tryd.ntmps122 rfl rfl (fun w0 => ?_)
  unfold p_math_bits_OnesCount64 at h
  refine kwp_seq ?_
  refine kwp_region ?_
  refine kd (v_as) ?_
  refine kops_nil ?_
  refine kn_then ?_
  refine kwp_seq ?_
  refine kwp_region ?_
  refine kd (v_mv) ?_
  refine kd (v_shr) ?_
  refine kd (v_bit) ?_
  refine kd (v_mv) ?_
  refine kd (v_bit) ?_
  refine kd (v_ari) ?_
  refine kd (v_as) ?_
  refine kops_nil ?_
  refine kn_then ?_
  refine kwp_seq ?_
  refine kwp_region ?_
  refine kd (v_mv) ?_
  refine kd (v_shr) ?_
  refine kd (v_bit) ?_
  refine kd (v_mv) ?_
  refine kd (v_bit) ?_
  refine kd (v_ari) ?_
  refine kd (v_as) ?_
  refine kops_nil ?_
  refine kn_then ?_
  refine kwp_seq ?_
  refine kwp_region ?_
  refine kd (v_mv) ?_
  refine kd (v_shr) ?_
  refine kd (v_mv) ?_
  refine kd (v_ari) ?_
  refine kd (v_bit) ?_
  refine kd (v_as) ?_
  refine kops_nil ?_
  refine kn_then ?_
  refine kwp_seq ?_
  refine kwp_region ?_
  refine kd (v_mv) ?_
  refine kd (v_mv) ?_
  refine kd (v_shr) ?_
  refine kd (v_ari) ?_
  refine kd (v_as) ?_
  refine kops_nil ?_
  refine kn_then ?_
  refine kwp_seq ?_
  refine kwp_region ?_
  refine kd (v_mv) ?_
  refine kd (v_mv) ?_
  refine kd (v_shr) ?_
  refine kd (v_ari) ?_
  refine kd (v_as) ?_
  refine kops_nil ?_
  refine kn_then ?_
  refine kwp_seq ?_
  refine kwp_region ?_
  refine kd (v_mv) ?_
  refine kd (v_mv) ?_
  refine kd (v_shr) ?_
  refine kd (v_ari) ?_
  refine kd (v_as) ?_
  refine kops_nil ?_
  refine kn_then ?_
  refine kwp_seq ?_
  refine kwp_region ?_
  refine kd (v_mv) ?_
  refine kd (v_cv Tryd.runUnderlying118 Tryd.runUnderlying3) ?_
  refine kd (v_bit) ?_
  refine kd (v_as) ?_
  refine kops_nil ?_
  refine kn_then ?_
  refine kwp_ret ?_
  obtain rfl := e_some h
  refine r1 [] ?_
  exact ⟨rfl, rfl⟩

set_option maxRecDepth 20000 in
theorem w_math_bits_OnesCount  {x0 : Int} {r : Int} (h : p_math_bits_OnesCount x0 = some r) :
    Triple Tryd.prog 94 [.int .u64 x0] [] [] (fun v ch => v = .int .i64 r ∧ ch = []) := by
  refine triple_start 8 Tryd.func94 Tryd.ntmps94 rfl rfl (fun w0 => ?_)
  unfold p_math_bits_OnesCount at h
  refine kwp_seq ?_
  refine kwp_region ?_
  refine kd (v_as) ?_
  refine kops_nil ?_
  refine kn_then ?_
  refine kwp_seq ?_
  refine kwp_cond_f rfl rfl ?_
  refine kwp_skip ?_
  refine kn_then ?_
  refine kwp_seq ?_
  refine kwp_region ?_
  refine kd (v_mv) ?_
  obtain ⟨v2, hv1, h⟩ := e_bind h
  refine kk (n_call Tryd.call122 (w_math_bits_OnesCount64 hv1) ?_)
  rintro _ _ ⟨rfl, rfl⟩
  refine kd (v_as) ?_
  refine kops_nil ?_
  refine kn_then ?_
  refine kwp_ret ?_
  obtain rfl := e_some h
  refine r1 [] ?_
  exact ⟨rfl, rfl⟩

set_option maxRecDepth 20000 in
theorem w_impl_setIndices  {set0 : Int} {r : List Int} (h : p_impl_setIndices set0 = some r) :
    Triple Tryd.prog 95 [.int .i64 set0] [] [] (fun v ch => ∃ (w0a : Option Addr) (w0c : Nat), v = .slice w0a r.length w0c ∧ ch = [⟨.slice w0a r.length w0c, 1, r.map encI⟩]) := by
  refine triple_start 19 Tryd.func95 Tryd.ntmps95 rfl rfl (fun w0 => ?_)
  unfold p_impl_setIndices at h
  refine kwp_seq ?_
  refine kwp_region ?_
  refine kops_nilchunk 1 (by decide) ?_
  refine kd (v_as) ?_
  refine kops_nil ?_
  refine kn_then ?_
  refine kwp_seq ?_
  refine kwp_region ?_
  refine kops_nilchunk 1 (by decide) ?_
  refine kd (v_as) ?_
  refine kops_nil ?_
  refine kn_then ?_
  refine kwp_seq ?_
  refine kwp_seq ?_
  refine kwp_region ?_
  refine kd (v_mv) ?_
  refine kops_nil ?_
  refine kn_then ?_
  refine kwp_cutE (inv := []) (fun (z : List Int) (y : Option Addr × Nat × Nat) => [(3, .slice y.1 y.2.1 y.2.2)]) (fun (z : List Int) (y : Option Addr × Nat × Nat) => [⟨.slice y.1 y.2.1 y.2.2, 1, z.map encI⟩]) (fun _ _ => True) h ?_ ?_
  · intro t4 h2
    refine kwp_block ?_
    refine kwp_loopE (inv := [(0, .int .i64 set0)]) (fun (z : List Int × Int) (y : Option Addr × Nat × Nat) => [(3, .slice y.1 y.2.1 y.2.2), (5, .int .i64 z.2)]) (fun (z : List Int × Int) (y : Option Addr × Nat × Nat) => [⟨.slice y.1 y.2.1 y.2.2, 1, z.1.map encI⟩]) (fun _ _ => True) h2 ⟨(none, 0, 0), hd_mk trivial⟩ ?_
    intro z9 y10 b7 _ h8
    obtain ⟨indices5, x6⟩ := z9
    obtain ⟨indices5a, indices5n, indices5c⟩ := y10
    refine k_len (c := indices5c) (fun hl11 => ?_)
    subst hl11
    unfold p_impl_setIndices_L0 at h8
    refine kwp_seq ?_
    refine kwp_region ?_
    refine kd (v_cmp) ?_
    refine kops_nil ?_
    refine kn_then ?_
    refine kwp_seq ?_
    refine kwp_cond rfl (fun hc12 => ?_) (fun hc12 => ?_)
    ·
      replace h8 := e_t h8 hc12
      refine kwp_skip ?_
      refine kn_then ?_
      refine kwp_seq ?_
      refine kwp_block ?_
      refine kwp_seq ?_
      refine kwp_region ?_
      refine kd (v_mv) ?_
      refine kd (v_as) ?_
      refine kops_nil ?_
      refine kn_then ?_
      refine kwp_seq ?_
      refine kwp_region ?_
      refine kd (v_mv) ?_
      refine kd (v_mv) ?_
      obtain ⟨hz13, h8⟩ := e_need h8
      refine kd (v_shr (h0 := hz13)) ?_
      refine kd (v_bit) ?_
      refine kd (v_cmp) ?_
      refine kops_nil ?_
      refine kn_then ?_
      refine kwp_cond rfl (fun hc14 => ?_) (fun hc14 => ?_)
      ·
        replace h8 := e_t h8 hc14
        refine kwp_region ?_
        refine kd (v_mv) ?_
        refine kd (v_mv) ?_
        refine kk (n_lit (enc := encI) [_] ([x6] : List Int) Tryd.runUnderlying26 Tryd.sizeOf3 Tryd.zeroValue3 (fun a15 => ?_))
        obtain ⟨hz16, h8⟩ := e_need h8
        refine kk (n_app (enc := encI) ok_encI hz16 Tryd.underlying26 Tryd.type3 (by decide) (fun a17 c18 => ?_))
        refine kd (v_as) ?_
        refine kops_nil ?_
        refine kn_block ?_
        refine kn_then ?_
        refine kwp_region ?_
        refine kd (v_add) ?_
        refine kd (v_mv) ?_
        refine kops_nil ?_
        refine kn_then ?_
        obtain rfl := e_some h8
        exact ⟨_, (a17, (indices5 ++ ([x6] : List Int)).length, c18), rfl, hd_mk trivial⟩
      ·
        replace h8 := e_f h8 hc14
        refine kwp_skip ?_
        refine kn_block ?_
        refine kn_then ?_
        refine kwp_region ?_
        refine kd (v_add) ?_
        refine kd (v_mv) ?_
        refine kops_nil ?_
        refine kn_then ?_
        obtain rfl := e_some h8
        exact ⟨_, (indices5a, indices5.length, indices5c), rfl, hd_mk trivial⟩
    ·
      replace h8 := e_f h8 hc12
      refine kwp_exit ?_
      refine ke_then ?_
      obtain rfl := e_some h8
      refine k_out ?_ rfl
      rintro rfl
      refine ke_block ?_
      exact ⟨(indices5a, indices5.length, indices5c), hd_mk trivial⟩
  · intro indices1 y20 _ h21
    obtain ⟨indices1a, indices1n, indices1c⟩ := y20
    refine k_len (c := indices1c) (fun hl22 => ?_)
    subst hl22
    refine kwp_seq ?_
    refine kwp_region ?_
    refine kd (v_mv) ?_
    refine kd (v_as) ?_
    refine kops_nil ?_
    refine kn_then ?_
    refine kwp_ret ?_
    obtain rfl := e_some h21
    refine r1 [⟨.slice indices1a (indices1.length) indices1c, 1, indices1.map encI⟩] ?_
    exact ⟨indices1a, indices1c, rfl, rfl⟩

set_option maxRecDepth 20000 in
set_option maxHeartbeats 2000000 in
theorem w_impl_isTree (s01a : Option Addr) (s01n : Nat) (s01c : Nat) (tree0a : Option Addr) (tree0n : Nat) (tree0c : Nat) {s0 : Survey} {tree0 : List Int} {r : Bool} (h : p_impl_isTree s0 tree0 = some r) :
    Triple Tryd.prog 71 [.agg #[.int .i64 s0.st, .slice s01a s01n s01c], .slice tree0a tree0n tree0c] [⟨.slice s01a s01n s01c, 5, s0.legs.map encLeg⟩, ⟨.slice tree0a tree0n tree0c, 1, tree0.map encI⟩] [] (fun v ch => v = .bool r ∧ ch = []) := by
  refine triple_start 59 Tryd.func71 Tryd.ntmps71 rfl rfl (fun w0 => ?_)
  refine k_len (c := s01c) (fun hl1 => ?_)
  subst hl1
  refine k_len (c := tree0c) (fun hl2 => ?_)
  subst hl2
  unfold p_impl_isTree at h
  refine kwp_seq ?_
  refine kwp_region ?_
  refine kk (n_box (e := [.int .i64 s0.st, .slice s01a s0.legs.length s01c]) 2 (fun p2_3 => ?_))
  refine kd (v_as) ?_
  refine kops_nil ?_
  refine kn_then ?_
  refine kwp_seq ?_
  refine kwp_seq ?_
  refine kwp_region ?_
  refine kd (v_mv) ?_
  refine kd (v_len Tryd.runUnderlying26) ?_
  refine kd (v_fb fa_25_0) ?_
  refine kd (v_ldb Tryd.isAgg3) ?_
  refine kd (v_sub) ?_
  refine kd (v_cmp) ?_
  refine kops_nil ?_
  refine kn_then ?_
  refine kwp_cond rfl (fun hc4 => ?_) (fun hc4 => ?_)
  ·
    replace h := e_t h hc4
    refine kwp_seq ?_
    refine kwp_region ?_
    refine kd (v_as) ?_
    refine kops_nil ?_
    refine kn_then ?_
    refine kwp_ret ?_
    refine kr_then ?_
    obtain rfl := e_some h
    refine r1 [] ?_
    exact ⟨rfl, rfl⟩
  ·
    replace h := e_f h hc4
    refine kwp_skip ?_
    refine kn_then ?_
    refine kwp_seq ?_
    refine kwp_region ?_
    refine kd (v_fb fa_25_0) ?_
    refine kd (v_ldb Tryd.isAgg3) ?_
    obtain ⟨v6, hv5, h⟩ := e_bind h
    refine kk (n_call Tryd.call97 (w_impl_ownParts hv5) ?_)
    rintro _ _ ⟨q7a, q7c, rfl, rfl⟩
    refine kd (v_as) ?_
    refine kops_nil ?_
    refine kn_then ?_
    refine kwp_seq ?_
    refine kwp_seq ?_
    refine kwp_region ?_
    refine kd (v_mv) ?_
    refine kd (v_len Tryd.runUnderlying26) ?_
    refine kd (v_mv) ?_
    refine kops_nil ?_
    refine kn_then ?_
    refine kwp_cutO (inv := []) (fun (z : Unit) (y : Unit) => []) (fun (z : Unit) (y : Unit) => []) (fun _ _ => True) h ?_ ?_
    · intro t10 h8 g9
      refine kwp_block ?_
      refine kwp_loopE (inv := [(1, .slice tree0a tree0.length tree0c), (2, .pointer (some p2_3)), (5, .slice q7a v6.length q7c), (17, .slice tree0a tree0.length tree0c), (18, .int .i64 ((tree0.length : Nat) : Int))]) (fun (z : Int × List Int) (y : Unit) => [(19, .int .i64 z.1)]) (fun (z : Int × List Int) (y : Unit) => [⟨.slice q7a v6.length q7c, 1, z.2.map encI⟩, ⟨.pointer (some p2_3), 2, [[.int .i64 s0.st, .slice s01a s0.legs.length s01c]]⟩]) (fun _ _ => True) h8 ⟨(), hd_mk trivial⟩ ?_
      intro z15 y16 b13 _ h14
      obtain ⟨x11, l12⟩ := z15
      unfold p_impl_isTree_L0 at h14
      refine kwp_seq ?_
      refine kwp_region ?_
      refine kd (v_cmp) ?_
      refine kops_nil ?_
      refine kn_then ?_
      refine kwp_seq ?_
      refine kwp_cond rfl (fun hc17 => ?_) (fun hc17 => ?_)
      ·
        replace h14 := e_t h14 hc17
        refine kwp_skip ?_
        refine kn_then ?_
        refine kwp_seq ?_
        refine kwp_block ?_
        refine kwp_seq ?_
        refine kwp_region ?_
        refine kd (v_mv) ?_
        obtain ⟨j18, ej18, nj18, h14⟩ := e_idx h14
        refine kd (v_ia ej18 nj18 Tryd.runUnderlying26 Tryd.sizeOf3) ?_
        refine kd (v_ldf nj18 Tryd.isAgg3) ?_
        refine kd (v_as) ?_
        refine kd (v_as) ?_
        refine kops_nil ?_
        refine kn_then ?_
        refine kwp_seq ?_
        refine kwp_seq ?_
        refine kwp_cutE (inv := [(1, .slice tree0a tree0.length tree0c), (2, .pointer (some p2_3)), (5, .slice q7a v6.length q7c), (7, .int .i64 (gx tree0 j18)), (17, .slice tree0a tree0.length tree0c), (18, .int .i64 ((tree0.length : Nat) : Int)), (19, .int .i64 x11)]) (fun (z : Bool) (y : Unit) => [(42, .bool z)]) (fun (z : Bool) (y : Unit) => [⟨.pointer (some p2_3), 2, [[.int .i64 s0.st, .slice s01a s0.legs.length s01c]]⟩, ⟨.slice q7a v6.length q7c, 1, l12.map encI⟩]) (fun _ _ => True) h14 ?_ ?_
        · intro t22 h20
          refine kwp_region ?_
          refine kd (v_mv) ?_
          refine kd (v_fb fa_25_1) ?_
          refine kd (v_ldb Tryd.isAgg23) ?_
          refine kd (v_len Tryd.runUnderlying23) ?_
          obtain ⟨v24, hv23, h20⟩ := e_bind h20
          refine kk (n_call Tryd.call75 (w_impl_isIndex hv23) ?_)
          rintro _ _ ⟨rfl, rfl⟩
          refine kd (v_not) ?_
          refine kd (v_mv) ?_
          refine kops_split 30 rfl (fun hb26 => ?_) (fun hb26 => ?_)
          ·
            replace h20 := e_t h20 hb26
            refine kskip hb26 ?_
            refine kskip hb26 ?_
            refine kskip hb26 ?_
            refine kops_skipU ?_
            refine kops_skipU ?_
            refine kops_skipU ?_
            refine kops_skipU ?_
            refine kops_skipU ?_
            refine kops_skipU ?_
            refine kops_skipU ?_
            refine kskip hb26 ?_
            refine kd (v_pt hb26) ?_
            refine kops_nil ?_
            refine kn_then ?_
            obtain rfl := e_some h20
            exact ⟨(), hd_mk trivial⟩
          ·
            replace h20 := e_f h20 hb26
            refine kgd hb26 (v_mv) ?_
            refine kgd hb26 (v_cmp) ?_
            refine kgd hb26 (v_mv) ?_
            refine kops_split 33 rfl (fun hb27 => ?_) (fun hb27 => ?_)
            ·
              replace h20 := e_t h20 hb27
              refine kgd hb27 (v_mv) ?_
              refine kgd hb27 (v_mv) ?_
              refine kgd hb27 (v_mv) ?_
              refine kgd hb27 (v_sub) ?_
              obtain ⟨j28, ej28, nj28, h20⟩ := e_idx h20
              refine kgd hb27 (v_ia ej28 nj28 Tryd.runUnderlying26 Tryd.sizeOf3) ?_
              refine kgd hb27 (v_ldf nj28 Tryd.isAgg3) ?_
              refine kgd hb27 (v_cmp) ?_
              refine kgd hb26 (v_pt hb27) ?_
              refine kd (v_pf hb26) ?_
              refine kops_nil ?_
              refine kn_then ?_
              obtain rfl := e_some h20
              exact ⟨(), hd_mk trivial⟩
            ·
              replace h20 := e_f h20 hb27
              refine kskip hb27 ?_
              refine kskip hb27 ?_
              refine kskip hb27 ?_
              refine kskip hb27 ?_
              refine kskip hb27 ?_
              refine kskip hb27 ?_
              refine kskip hb27 ?_
              refine kgd hb26 (v_pf hb27) ?_
              refine kd (v_pf hb26) ?_
              refine kops_nil ?_
              refine kn_then ?_
              obtain rfl := e_some h20
              exact ⟨(), hd_mk trivial⟩
        · intro x19 y30 _ h31
          refine kn_then ?_
          refine kwp_cond rfl (fun hc32 => ?_) (fun hc32 => ?_)
          ·
            replace h31 := e_t h31 hc32
            refine kwp_seq ?_
            refine kwp_region ?_
            refine kd (v_as) ?_
            refine kops_nil ?_
            refine kn_then ?_
            refine kwp_ret ?_
            refine kr_then ?_
            refine kr_block ?_
            refine kr_then ?_
            refine kr_then ?_
            obtain rfl := e_some h31
            refine k_out ?_ rfl
            rintro rfl
            refine kr_block ?_
            refine kr_then ?_
            refine kr_then ?_
            obtain rfl := e_some g9
            refine r1 [] ?_
            exact ⟨rfl, rfl⟩
          ·
            replace h31 := e_f h31 hc32
            refine kwp_skip ?_
            refine kn_then ?_
            refine kwp_seq ?_
            obtain ⟨j33, ej33, nj33, h31⟩ := e_idx h31
            obtain ⟨⟨v35, v36⟩, hv34, h31⟩ := e_bind h31
            refine kwp_tree (.quiet 0 (.quiet 1 (.quiet 2 (.quiet 3 (.quiet 4 (.quiet 5 (.quiet 6 (.quiet 7 (.quiet 8 (.quiet 9 (.quiet 10 (.quiet 11 (.quiet 12 (.one 13 (.quiet 14 .stop))))))))))))))) [] [⟨.pointer (some p2_3), 2, [[.int .i64 s0.st, .slice s01a s0.legs.length s01c]]⟩] drawMixed (by kernel_rfl) nopan (by (repeat (first | exact Sub.refl _ | exact Sub.nil _ | refine Sub.chunk (by repeat (first | exact Pick.here | apply Pick.there | apply Pick.seg)) (by rfl) ?_ | refine Sub.seg (by repeat (first | exact PickSeg.here | exact PickSeg.all | apply PickSeg.there | apply PickSeg.seg)) ?_ | exact Sub.seg0 (by repeat (first | exact PickSeg.here | exact PickSeg.all | apply PickSeg.there | apply PickSeg.seg)) | apply Sub.assoc))) ?_
            refine kt_d rfl rfl rfl (v_mv) ?_
            refine kt_d rfl rfl rfl (v_fb fa_25_1) ?_
            refine kt_d rfl rfl rfl (v_ldb Tryd.isAgg23) ?_
            refine kt_d rfl rfl rfl (v_mv) ?_
            refine kt_d rfl rfl rfl (v_ia ej33 nj33 Tryd.runUnderlying23 Tryd.sizeOf48) ?_
            refine kt_d rfl rfl rfl (v_fa nj33 fa_48_0) ?_
            refine kt_d rfl rfl rfl (v_ldf nj33 Tryd.isAgg3) ?_
            refine kt_d rfl rfl rfl (v_fb fa_25_1) ?_
            refine kt_d rfl rfl rfl (v_ldb Tryd.isAgg23) ?_
            refine kt_d rfl rfl rfl (v_mv) ?_
            refine kt_d rfl rfl rfl (v_ia ej33 nj33 Tryd.runUnderlying23 Tryd.sizeOf48) ?_
            refine kt_d rfl rfl rfl (v_fa nj33 fa_48_1) ?_
            refine kt_d rfl rfl rfl (v_ldf nj33 Tryd.isAgg3) ?_
            refine kt_one ?_
            refine kl_k rfl rfl (n_call Tryd.call98 (w_impl_joinParts q7a v6.length q7c hv34) ?_)
            rintro _ _ ⟨rfl, rfl⟩
            refine ⟨.inl (by (repeat (first | exact Sub.refl _ | exact Sub.nil _ | refine Sub.chunk (by repeat (first | exact Pick.here | apply Pick.there | apply Pick.seg)) (by rfl) ?_ | refine Sub.seg (by repeat (first | exact PickSeg.here | exact PickSeg.all | apply PickSeg.there | apply PickSeg.seg)) ?_ | exact Sub.seg0 (by repeat (first | exact PickSeg.here | exact PickSeg.all | apply PickSeg.there | apply PickSeg.seg)) | apply Sub.assoc))), ?_⟩
            refine kt_d rfl rfl rfl (v_not) ?_
            refine kt_nil ?_
            refine kn_then ?_
            refine kwp_cond rfl (fun hc38 => ?_) (fun hc38 => ?_)
            ·
              replace h31 := e_t h31 hc38
              refine kwp_seq ?_
              refine kwp_region ?_
              refine kd (v_as) ?_
              refine kops_nil ?_
              refine kn_then ?_
              refine kwp_ret ?_
              refine kr_block ?_
              refine kr_then ?_
              refine kr_then ?_
              obtain rfl := e_some h31
              refine k_out ?_ rfl
              rintro rfl
              refine kr_block ?_
              refine kr_then ?_
              refine kr_then ?_
              obtain rfl := e_some g9
              refine r1 [] ?_
              exact ⟨rfl, rfl⟩
            ·
              replace h31 := e_f h31 hc38
              refine kwp_skip ?_
              refine kn_block ?_
              refine kn_then ?_
              refine kwp_region ?_
              refine kd (v_add) ?_
              refine kd (v_mv) ?_
              refine kops_nil ?_
              refine kn_then ?_
              obtain rfl := e_some h31
              exact ⟨_, (), rfl, hd_mk trivial⟩
      ·
        replace h14 := e_f h14 hc17
        refine kwp_exit ?_
        refine ke_then ?_
        obtain rfl := e_some h14
        refine k_out ?_ rfl
        rintro rfl
        refine ke_block ?_
        exact ⟨_, (), rfl, hd_mk trivial⟩
    · intro z39 y40 _ h41
      refine kn_then ?_
      refine kwp_seq ?_
      refine kwp_region ?_
      refine kd (v_as) ?_
      refine kops_nil ?_
      refine kn_then ?_
      refine kwp_ret ?_
      obtain rfl := e_some h41
      refine r1 [] ?_
      exact ⟨rfl, rfl⟩

set_option maxRecDepth 20000 in
theorem w_impl_TreesAll (s01a : Option Addr) (s01n : Nat) (s01c : Nat) {s0 : Survey} {r : List (List Int)} (h : p_impl_TreesAll s0 = some r) :
    Triple Tryd.prog 47 [.agg #[.int .i64 s0.st, .slice s01a s01n s01c]] [⟨.slice s01a s01n s01c, 5, s0.legs.map encLeg⟩] [] (fun v ch => ∃ (w0a : Option Addr) (w0c : Nat) (w0R : List Row), v = .slice w0a r.length w0c ∧ nums w0R = r ∧ ch = (⟨.slice w0a r.length w0c, 1, w0R.map encRow⟩ :: (rowsC w0R))) := by
  refine triple_start 34 Tryd.func47 Tryd.ntmps47 rfl rfl (fun w0 => ?_)
  refine k_len (c := s01c) (fun hl1 => ?_)
  subst hl1
  unfold p_impl_TreesAll at h
  refine kwp_seq ?_
  refine kwp_region ?_
  refine kk (n_box (e := [.int .i64 s0.st, .slice s01a s0.legs.length s01c]) 2 (fun p1_2 => ?_))
  refine kops_nilM (fun R3 hR3 => ?_)
  refine kd (v_as) ?_
  refine kops_nil ?_
  refine kn_then ?_
  refine kwp_seq ?_
  refine kwp_seq ?_
  refine kwp_region ?_
  refine kd (v_ldB Tryd.isAgg25 Tryd.sizeOf25) ?_
  obtain ⟨v5, hv4, h⟩ := e_bind h
  refine kk (n_call Tryd.call29 (w_impl_SurveyValid s01a s0.legs.length s01c hv4) ?_)
  rintro _ _ ⟨rfl, rfl⟩
  refine kd (v_not) ?_
  refine kops_nil ?_
  refine kn_then ?_
  refine kwp_cond rfl (fun hc7 => ?_) (fun hc7 => ?_)
  ·
    replace h := e_t h hc7
    refine kwp_seq ?_
    refine kwp_region ?_
    refine kops_nilM (fun R8 hR8 => ?_)
    refine kd (v_as) ?_
    refine kops_nil ?_
    refine kn_then ?_
    refine kwp_ret ?_
    refine kr_then ?_
    obtain rfl := e_some h
    refine r1 (⟨.slice none 0 0, 1, R8.map encRow⟩ :: (rowsC R8)) ?_
    exact ⟨none, 0, R8, rfl, hR8, rfl⟩
  ·
    replace h := e_f h hc7
    refine kwp_skip ?_
    refine kn_then ?_
    refine kwp_seq ?_
    refine kwp_region ?_
    refine kops_nilM (fun R9 hR9 => ?_)
    refine kd (v_as) ?_
    refine kops_nil ?_
    refine kn_then ?_
    refine kwp_seq ?_
    refine kwp_seq ?_
    refine kwp_region ?_
    refine kd (v_fb fa_25_1) ?_
    refine kd (v_ldb Tryd.isAgg23) ?_
    refine kd (v_len Tryd.runUnderlying23) ?_
    obtain ⟨hz10, h⟩ := e_need h
    refine kd (v_shl (h0 := hz10)) ?_
    refine kd (v_mv) ?_
    refine kops_nil ?_
    refine kn_then ?_
    refine kwp_cutE (inv := []) (fun (z : List (List Int)) (y : Option Addr × Nat × Nat × List Row) => [(3, .slice y.1 y.2.1 y.2.2.1)]) (fun (z : List (List Int)) (y : Option Addr × Nat × Nat × List Row) => (⟨.slice y.1 y.2.1 y.2.2.1, 1, y.2.2.2.map encRow⟩ :: (rowsC y.2.2.2))) (fun (z : List (List Int)) (y : Option Addr × Nat × Nat × List Row) => nums y.2.2.2 = z ∧ True) h ?_ ?_
    · intro t14 h12
      refine kwp_block ?_
      refine kwp_loopE (inv := [(1, .pointer (some p1_2)), (12, .int .i64 (w64 (1 * 2 ^ (min (Int.toNat ((s0.legs.length : Nat) : Int)) IntKind.i64.bits))))]) (fun (z : List (List Int) × Int) (y : Option Addr × Nat × Nat × List Row) => [(3, .slice y.1 y.2.1 y.2.2.1), (13, .int .i64 z.2)]) (fun (z : List (List Int) × Int) (y : Option Addr × Nat × Nat × List Row) => (⟨.slice y.1 y.2.1 y.2.2.1, 1, y.2.2.2.map encRow⟩ :: ⟨.pointer (some p1_2), 2, [[.int .i64 s0.st, .slice s01a s0.legs.length s01c]]⟩ :: (rowsC y.2.2.2))) (fun (z : List (List Int) × Int) (y : Option Addr × Nat × Nat × List Row) => nums y.2.2.2 = z.1 ∧ True) h12 ⟨(none, 0, 0, R9), hd_mk ⟨hR9, trivial⟩⟩ ?_
      intro z19 y20 b17 hp21 h18
      obtain ⟨all15, x16⟩ := z19
      obtain ⟨all15a, all15n, all15c, all15R⟩ := y20
      obtain ⟨hall15R, _⟩ := hp21
      refine k_lenM (c := all15c) (m := all15) hall15R (fun hl22 => ?_)
      subst hl22
      unfold p_impl_TreesAll_L0 at h18
      refine kwp_seq ?_
      refine kwp_region ?_
      refine kd (v_cmp) ?_
      refine kops_nil ?_
      refine kn_then ?_
      refine kwp_seq ?_
      refine kwp_cond rfl (fun hc23 => ?_) (fun hc23 => ?_)
      ·
        replace h18 := e_t h18 hc23
        refine kwp_skip ?_
        refine kn_then ?_
        refine kwp_seq ?_
        refine kwp_block ?_
        refine kwp_seq ?_
        refine kwp_region ?_
        refine kd (v_mv) ?_
        refine kd (v_as) ?_
        refine kops_nil ?_
        refine kn_then ?_
        refine kwp_seq ?_
        refine kwp_seq ?_
        obtain ⟨v25, hv24, h18⟩ := e_bind h18
        refine kwp_tree (.quiet 0 (.quiet 1 (.quiet 3 (.quiet 4 (.quiet 5 (.one 2 (.quiet 6 .stop))))))) [] [⟨.pointer (some p1_2), 2, [[.int .i64 s0.st, .slice s01a s0.legs.length s01c]]⟩] drawMixed (by kernel_rfl) nopan (by (repeat (first | exact Sub.refl _ | exact Sub.nil _ | refine Sub.chunk (by repeat (first | exact Pick.here | apply Pick.there | apply Pick.seg)) (by rfl) ?_ | refine Sub.seg (by repeat (first | exact PickSeg.here | exact PickSeg.all | apply PickSeg.there | apply PickSeg.seg)) ?_ | exact Sub.seg0 (by repeat (first | exact PickSeg.here | exact PickSeg.all | apply PickSeg.there | apply PickSeg.seg)) | apply Sub.assoc))) ?_
        refine kt_d rfl rfl rfl (v_mv) ?_
        refine kt_d rfl rfl rfl (v_cv Tryd.runUnderlying3 Tryd.runUnderlying98) ?_
        refine kt_d rfl rfl rfl (v_fb fa_25_0) ?_
        refine kt_d rfl rfl rfl (v_ldb Tryd.isAgg3) ?_
        refine kt_d rfl rfl rfl (v_sub) ?_
        refine kt_one ?_
        refine kl_k rfl rfl (n_call Tryd.call94 (w_math_bits_OnesCount hv24) ?_)
        rintro _ _ ⟨rfl, rfl⟩
        refine ⟨.inl (by (repeat (first | exact Sub.refl _ | exact Sub.nil _ | refine Sub.chunk (by repeat (first | exact Pick.here | apply Pick.there | apply Pick.seg)) (by rfl) ?_ | refine Sub.seg (by repeat (first | exact PickSeg.here | exact PickSeg.all | apply PickSeg.there | apply PickSeg.seg)) ?_ | exact Sub.seg0 (by repeat (first | exact PickSeg.here | exact PickSeg.all | apply PickSeg.there | apply PickSeg.seg)) | apply Sub.assoc))), ?_⟩
        refine kt_d rfl rfl rfl (v_cmp) ?_
        refine kt_nil ?_
        refine kn_then ?_
        refine kwp_cond rfl (fun hc27 => ?_) (fun hc27 => ?_)
        ·
          replace h18 := e_t h18 hc27
          refine kwp_exit ?_
          refine ke_then ?_
          refine ke_block ?_
          refine kn_then ?_
          refine kwp_region ?_
          refine kd (v_add) ?_
          refine kd (v_mv) ?_
          refine kops_nil ?_
          refine kn_then ?_
          obtain rfl := e_some h18
          exact ⟨_, (all15a, all15.length, all15c, all15R), rfl, hd_mk ⟨hall15R, trivial⟩⟩
        ·
          replace h18 := e_f h18 hc27
          refine kwp_skip ?_
          refine kn_then ?_
          refine kwp_seq ?_
          refine kwp_region ?_
          refine kd (v_mv) ?_
          obtain ⟨v29, hv28, h18⟩ := e_bind h18
          refine kk (n_call Tryd.call95 (w_impl_setIndices hv28) ?_)
          rintro _ _ ⟨q30a, q30c, rfl, rfl⟩
          refine kd (v_as) ?_
          refine kops_nil ?_
          refine kn_then ?_
          refine kwp_seq ?_
          refine kwp_region ?_
          refine kd (v_ldB Tryd.isAgg25 Tryd.sizeOf25) ?_
          refine kd (v_mv) ?_
          obtain ⟨v32, hv31, h18⟩ := e_bind h18
          refine kk (n_call Tryd.call71 (w_impl_isTree s01a s0.legs.length s01c q30a v29.length q30c hv31) ?_)
          rintro _ _ ⟨rfl, rfl⟩
          refine kops_nil ?_
          refine kn_then ?_
          refine kwp_cond rfl (fun hc34 => ?_) (fun hc34 => ?_)
          ·
            replace h18 := e_t h18 hc34
            refine kwp_region ?_
            refine kd (v_mv) ?_
            refine kd (v_mv) ?_
            refine kk (n_lit (enc := fun v => v) [_] [[.slice q30a v29.length q30c]] Tryd.runUnderlying51 Tryd.sizeOf26 Tryd.zeroValue26 (fun a35 => ?_))
            obtain ⟨hz36, h18⟩ := e_need h18
            refine kk (n_appM (l := v29) hall15R hz36 Tryd.underlying51 Tryd.type26 (by decide) (fun a37 c38 R39 hR39 => ?_))
            refine kd (v_as) ?_
            refine kops_nil ?_
            refine kn_block ?_
            refine kn_then ?_
            refine kwp_region ?_
            refine kd (v_add) ?_
            refine kd (v_mv) ?_
            refine kops_nil ?_
            refine kn_then ?_
            obtain rfl := e_some h18
            exact ⟨_, (a37, (all15 ++ [v29]).length, c38, R39), rfl, hd_mk ⟨hR39, trivial⟩⟩
          ·
            replace h18 := e_f h18 hc34
            refine kwp_skip ?_
            refine kn_block ?_
            refine kn_then ?_
            refine kwp_region ?_
            refine kd (v_add) ?_
            refine kd (v_mv) ?_
            refine kops_nil ?_
            refine kn_then ?_
            obtain rfl := e_some h18
            exact ⟨_, (all15a, all15.length, all15c, all15R), rfl, hd_mk ⟨hall15R, trivial⟩⟩
      ·
        replace h18 := e_f h18 hc23
        refine kwp_exit ?_
        refine ke_then ?_
        obtain rfl := e_some h18
        refine k_out ?_ rfl
        rintro rfl
        refine ke_block ?_
        exact ⟨(all15a, all15.length, all15c, all15R), hd_mk ⟨hall15R, trivial⟩⟩
    · intro all11 y41 hp43 h42
      obtain ⟨all11a, all11n, all11c, all11R⟩ := y41
      obtain ⟨hall11R, _⟩ := hp43
      refine k_lenM (c := all11c) (m := all11) hall11R (fun hl44 => ?_)
      subst hl44
      refine kwp_seq ?_
      refine kwp_region ?_
      refine kd (v_mv) ?_
      refine kd (v_as) ?_
      refine kops_nil ?_
      refine kn_then ?_
      refine kwp_ret ?_
      obtain rfl := e_some h42
      refine r1 (⟨.slice all11a (all11.length) all11c, 1, all11R.map encRow⟩ :: (rowsC all11R)) ?_
      exact ⟨all11a, all11c, all11R, rfl, hall11R, rfl⟩

set_option maxRecDepth 20000 in
theorem w_spec_l2Chosen (s01a : Option Addr) (s01n : Nat) (s01c : Nat) {s0 : Survey} {set0 : Int} {r : Survey × List Int} (h : p_spec_l2Chosen s0 set0 = some r) :
    Triple Tryd.prog 96 [.agg #[.int .i64 s0.st, .slice s01a s01n s01c], .int .i64 set0] [⟨.slice s01a s01n s01c, 5, s0.legs.map encLeg⟩] [] (fun v ch => ∃ (w01a : Option Addr) (w01c : Nat) (w1a : Option Addr) (w1c : Nat), v = .tuple #[.agg #[.int .i64 r.1.st, .slice w01a r.1.legs.length w01c], .slice w1a r.2.length w1c] ∧ ch = [⟨.slice w01a r.1.legs.length w01c, 5, r.1.legs.map encLeg⟩, ⟨.slice w1a r.2.length w1c, 1, r.2.map encI⟩]) := by
  refine triple_start 41 Tryd.func96 Tryd.ntmps96 rfl rfl (fun w0 => ?_)
  refine k_len (c := s01c) (fun hl1 => ?_)
  subst hl1
  unfold p_spec_l2Chosen at h
  refine kwp_seq ?_
  refine kwp_region ?_
  refine kk (n_box (e := [.int .i64 s0.st, .slice s01a s0.legs.length s01c]) 2 (fun p2_2 => ?_))
  refine kops_nilchunk 5 (by decide) ?_
  refine kk (n_alloc (e := [.int .i64 0, .slice none 0 0]) 2 Tryd.zeroValue25 (fun p4_3 => ?_))
  refine kops_nilchunk 1 (by decide) ?_
  refine kd (v_as) ?_
  refine kops_nil ?_
  refine kn_then ?_
  refine kwp_seq ?_
  refine kwp_region ?_
  refine kd (v_fb fa_25_0) ?_
  refine kd (v_ldb Tryd.isAgg3) ?_
  refine kops_nilchunk 5 (by decide) ?_
  refine kd (v_bd [(0, _)] [_, .slice none 0 0] Tryd.zeroValue25 Tryd.runUnderlying25 pl_25) ?_
  refine kops_nilchunk 5 (by decide) ?_
  refine kk (n_alloc (e := [.int .i64 0, .slice none 0 0]) 2 Tryd.zeroValue25 (fun p6_4 => ?_))
  refine kk (s_B (e' := [.int .i64 s0.st, .slice none 0 0]) Tryd.sizeOf25 ?_)
  refine kops_nil ?_
  refine kn_then ?_
  refine kwp_seq ?_
  refine kwp_region ?_
  refine kk (n_lit (enc := encI) [] ([] : List Int) Tryd.runUnderlying26 Tryd.sizeOf3 Tryd.zeroValue3 (fun a5 => ?_))
  refine kd (v_as) ?_
  refine kops_nil ?_
  refine kn_then ?_
  refine kwp_seq ?_
  refine kwp_seq ?_
  refine kwp_region ?_
  refine kd (v_as) ?_
  refine kops_nil ?_
  refine kn_then ?_
  refine kwp_cutE (inv := [(4, .pointer (some p4_3)), (6, .pointer (some p6_4))]) (fun (z : List Int × List Leg) (y : Option Addr × Nat × Nat × Option Addr × Nat × Nat) => [(7, .slice y.1 y.2.1 y.2.2.1)]) (fun (z : List Int × List Leg) (y : Option Addr × Nat × Nat × Option Addr × Nat × Nat) => [⟨.pointer (some p6_4), 2, [[.int .i64 s0.st, .slice y.2.2.2.1 y.2.2.2.2.1 y.2.2.2.2.2]]⟩, ⟨.slice y.2.2.2.1 y.2.2.2.2.1 y.2.2.2.2.2, 5, z.2.map encLeg⟩, ⟨.slice y.1 y.2.1 y.2.2.1, 1, z.1.map encI⟩, ⟨.pointer (some p4_3), 2, [[.int .i64 0, .slice none 0 0]]⟩, ⟨.slice none 0 0, 5, ([] : List Leg).map encLeg⟩]) (fun _ _ => True) h ?_ ?_
  · intro t10 h8
    refine kwp_block ?_
    refine kwp_loopE (inv := [(1, .int .i64 set0), (2, .pointer (some p2_2)), (4, .pointer (some p4_3)), (6, .pointer (some p6_4))]) (fun (z : List Int × Int × List Leg) (y : Option Addr × Nat × Nat × Option Addr × Nat × Nat) => [(7, .slice y.1 y.2.1 y.2.2.1), (8, .int .i64 z.2.1)]) (fun (z : List Int × Int × List Leg) (y : Option Addr × Nat × Nat × Option Addr × Nat × Nat) => [⟨.pointer (some p6_4), 2, [[.int .i64 s0.st, .slice y.2.2.2.1 y.2.2.2.2.1 y.2.2.2.2.2]]⟩, ⟨.slice y.2.2.2.1 y.2.2.2.2.1 y.2.2.2.2.2, 5, z.2.2.map encLeg⟩, ⟨.slice y.1 y.2.1 y.2.2.1, 1, z.1.map encI⟩, ⟨.pointer (some p2_2), 2, [[.int .i64 s0.st, .slice s01a s0.legs.length s01c]]⟩, ⟨.pointer (some p4_3), 2, [[.int .i64 0, .slice none 0 0]]⟩, ⟨.slice none 0 0, 5, ([] : List Leg).map encLeg⟩]) (fun _ _ => True) h8 ⟨(some a5, 0, 0, none, 0, 0), hd_mk trivial⟩ ?_
    intro z16 y17 b14 _ h15
    obtain ⟨list11, k12, legs13⟩ := z16
    obtain ⟨list11a, list11n, list11c, legs13a, legs13n, legs13c⟩ := y17
    refine k_len (c := legs13c) (fun hl18 => ?_)
    subst hl18
    refine k_len (c := list11c) (fun hl19 => ?_)
    subst hl19
    unfold p_spec_l2Chosen_L0 at h15
    refine kwp_seq ?_
    refine kwp_seq ?_
    refine kwp_region ?_
    refine kd (v_mv) ?_
    refine kd (v_fb fa_25_1) ?_
    refine kd (v_ldb Tryd.isAgg23) ?_
    refine kd (v_len Tryd.runUnderlying23) ?_
    refine kd (v_cmp) ?_
    refine kops_nil ?_
    refine kn_then ?_
    refine kwp_cond rfl (fun hc20 => ?_) (fun hc20 => ?_)
    ·
      replace h15 := e_t h15 hc20
      refine kwp_skip ?_
      refine kn_then ?_
      refine kwp_seq ?_
      refine kwp_block ?_
      refine kwp_seq ?_
      refine kwp_region ?_
      refine kd (v_mv) ?_
      refine kd (v_mv) ?_
      obtain ⟨hz21, h15⟩ := e_need h15
      refine kd (v_shr (h0 := hz21)) ?_
      refine kd (v_rem) ?_
      refine kd (v_cmp) ?_
      refine kops_nil ?_
      refine kn_then ?_
      refine kwp_cond rfl (fun hc22 => ?_) (fun hc22 => ?_)
      ·
        replace h15 := e_t h15 hc22
        refine kwp_seq ?_
        obtain ⟨j23, ej23, nj23, h15⟩ := e_idx h15
        obtain ⟨hz25, h15⟩ := e_need h15
        refine kwp_tree (.quiet 0 (.quiet 1 (.quiet 2 (.quiet 3 (.quiet 4 (.quiet 5 (.quiet 6 (.one 7 (.one 8 (.quiet 9 (.one 10 .stop))))))))))) [10] [⟨.pointer (some p2_2), 2, [[.int .i64 s0.st, .slice s01a s0.legs.length s01c]]⟩, ⟨.pointer (some p6_4), 2, [[.int .i64 s0.st, .slice legs13a legs13.length legs13c]]⟩] drawMixed (by kernel_rfl) nopan (by (repeat (first | exact Sub.refl _ | exact Sub.nil _ | refine Sub.chunk (by repeat (first | exact Pick.here | apply Pick.there | apply Pick.seg)) (by rfl) ?_ | refine Sub.seg (by repeat (first | exact PickSeg.here | exact PickSeg.all | apply PickSeg.there | apply PickSeg.seg)) ?_ | exact Sub.seg0 (by repeat (first | exact PickSeg.here | exact PickSeg.all | apply PickSeg.there | apply PickSeg.seg)) | apply Sub.assoc))) ?_
        refine kt_d rfl rfl rfl (v_fb fa_25_1) ?_
        refine kt_d rfl rfl rfl (v_ldb Tryd.isAgg23) ?_
        refine kt_d rfl rfl rfl (v_fb fa_25_1) ?_
        refine kt_d rfl rfl rfl (v_ldb Tryd.isAgg23) ?_
        refine kt_d rfl rfl rfl (v_mv) ?_
        refine kt_d rfl rfl rfl (v_ia ej23 nj23 Tryd.runUnderlying23 Tryd.sizeOf48) ?_
        refine kt_d rfl rfl rfl (v_lda (e := [_, _, _, _, _]) nj23 Tryd.isAgg48 Tryd.sizeOf48) ?_
        refine kt_one ?_
        refine kl_k rfl rfl (n_lit (enc := encLeg) [_] ([gx s0.legs j23] : List Leg) Tryd.runUnderlying23 Tryd.sizeOf48 Tryd.zeroValue48 (fun a24 => ?_))
        refine ⟨.inl (by (repeat (first | exact Sub.refl _ | exact Sub.nil _ | refine Sub.chunk (by repeat (first | exact Pick.here | apply Pick.there | apply Pick.seg)) (by rfl) ?_ | refine Sub.seg (by repeat (first | exact PickSeg.here | exact PickSeg.all | apply PickSeg.there | apply PickSeg.seg)) ?_ | exact Sub.seg0 (by repeat (first | exact PickSeg.here | exact PickSeg.all | apply PickSeg.there | apply PickSeg.seg)) | apply Sub.assoc))), ?_⟩
        refine kt_one ?_
        refine kl_k rfl rfl (n_app (enc := encLeg) ok_encLeg hz25 Tryd.underlying23 Tryd.type48 (by decide) (fun a26 c27 => ?_))
        refine ⟨.inl (by (repeat (first | exact Sub.refl _ | exact Sub.nil _ | refine Sub.chunk (by repeat (first | exact Pick.here | apply Pick.there | apply Pick.seg)) (by rfl) ?_ | refine Sub.seg (by repeat (first | exact PickSeg.here | exact PickSeg.all | apply PickSeg.there | apply PickSeg.seg)) ?_ | exact Sub.seg0 (by repeat (first | exact PickSeg.here | exact PickSeg.all | apply PickSeg.there | apply PickSeg.seg)) | apply Sub.assoc))), ?_⟩
        refine kt_d rfl rfl rfl (v_fb fa_25_1) ?_
        refine kt_one ?_
        refine kl_k rfl rfl (s_b (e' := [.int .i64 s0.st, .slice a26 ((legs13 ++ ([gx s0.legs j23] : List Leg)).length) c27]) Tryd.sizeOf23 ?_)
        refine ⟨.inr ⟨by decide, rfl⟩, ?_⟩
        refine kt_nil ?_
        refine kn_then ?_
        refine kwp_region ?_
        refine kd (v_mv) ?_
        refine kd (v_mv) ?_
        refine kk (n_lit (enc := encI) [_] ([k12] : List Int) Tryd.runUnderlying26 Tryd.sizeOf3 Tryd.zeroValue3 (fun a28 => ?_))
        obtain ⟨hz29, h15⟩ := e_need h15
        refine kk (n_app (enc := encI) ok_encI hz29 Tryd.underlying26 Tryd.type3 (by decide) (fun a30 c31 => ?_))
        refine kd (v_as) ?_
        refine kops_nil ?_
        refine kn_block ?_
        refine kn_then ?_
        refine kwp_region ?_
        refine kd (v_mv) ?_
        refine kd (v_add) ?_
        refine kd (v_as) ?_
        refine kops_nil ?_
        refine kn_then ?_
        obtain rfl := e_some h15
        exact ⟨_, (a30, (list11 ++ ([k12] : List Int)).length, c31, a26, (legs13 ++ ([gx s0.legs j23] : List Leg)).length, c27), rfl, hd_mk trivial⟩
      ·
        replace h15 := e_f h15 hc22
        refine kwp_skip ?_
        refine kn_block ?_
        refine kn_then ?_
        refine kwp_region ?_
        refine kd (v_mv) ?_
        refine kd (v_add) ?_
        refine kd (v_as) ?_
        refine kops_nil ?_
        refine kn_then ?_
        obtain rfl := e_some h15
        exact ⟨_, (list11a, list11.length, list11c, legs13a, legs13.length, legs13c), rfl, hd_mk trivial⟩
    ·
      replace h15 := e_f h15 hc20
      refine kwp_exit ?_
      refine ke_then ?_
      obtain rfl := e_some h15
      refine k_out ?_ rfl
      rintro rfl
      refine ke_block ?_
      exact ⟨(list11a, list11.length, list11c, legs13a, legs13.length, legs13c), hd_mk trivial⟩
  · intro z32 y33 _ h34
    obtain ⟨list6, legs7⟩ := z32
    obtain ⟨list6a, list6n, list6c, legs7a, legs7n, legs7c⟩ := y33
    refine k_len (c := legs7c) (fun hl35 => ?_)
    subst hl35
    refine k_len (c := list6c) (fun hl36 => ?_)
    subst hl36
    refine kwp_seq ?_
    refine kwp_region ?_
    refine kd (v_ldB Tryd.isAgg25 Tryd.sizeOf25) ?_
    refine kd (v_mv) ?_
    refine kk (s_B (e' := [.int .i64 s0.st, .slice legs7a legs7.length legs7c]) Tryd.sizeOf25 ?_)
    refine kd (v_as) ?_
    refine kops_nil ?_
    refine kn_then ?_
    refine kwp_ret ?_
    obtain rfl := e_some h34
    refine rc1 Tryd.isAgg25 Tryd.sizeOf25 [⟨.slice legs7a (legs7.length) legs7c, 5, legs7.map encLeg⟩, ⟨.slice list6a (list6.length) list6c, 1, list6.map encI⟩] ?_
    exact ⟨legs7a, legs7c, list6a, list6c, rfl, rfl⟩

set_option maxRecDepth 20000 in
theorem w_spec_TreesAll (s01a : Option Addr) (s01n : Nat) (s01c : Nat) {s0 : Survey} {r : List (List Int)} (h : p_spec_TreesAll s0 = some r) :
    Triple Tryd.prog 48 [.agg #[.int .i64 s0.st, .slice s01a s01n s01c]] [⟨.slice s01a s01n s01c, 5, s0.legs.map encLeg⟩] [] (fun v ch => ∃ (w0a : Option Addr) (w0c : Nat) (w0R : List Row), v = .slice w0a r.length w0c ∧ nums w0R = r ∧ ch = (⟨.slice w0a r.length w0c, 1, w0R.map encRow⟩ :: (rowsC w0R))) := by
  refine triple_start 42 Tryd.func48 Tryd.ntmps48 rfl rfl (fun w0 => ?_)
  refine k_len (c := s01c) (fun hl1 => ?_)
  subst hl1
  unfold p_spec_TreesAll at h
  refine kwp_seq ?_
  refine kwp_region ?_
  refine kk (n_box (e := [.int .i64 s0.st, .slice s01a s0.legs.length s01c]) 2 (fun p1_2 => ?_))
  refine kops_nilM (fun R3 hR3 => ?_)
  refine kd (v_as) ?_
  refine kops_nil ?_
  refine kn_then ?_
  refine kwp_seq ?_
  refine kwp_region ?_
  refine kk (n_litM Tryd.runUnderlying51 Tryd.sizeOf26 Tryd.zeroValue26 (fun a4 R5 hR5 => ?_))
  refine kd (v_as) ?_
  refine kops_nil ?_
  refine kn_then ?_
  refine kwp_seq ?_
  refine kwp_seq ?_
  refine kwp_region ?_
  refine kd (v_as) ?_
  refine kops_nil ?_
  refine kn_then ?_
  refine kwp_cutE (inv := []) (fun (z : List (List Int)) (y : Option Addr × Nat × Nat × List Row) => [(3, .slice y.1 y.2.1 y.2.2.1)]) (fun (z : List (List Int)) (y : Option Addr × Nat × Nat × List Row) => (⟨.slice y.1 y.2.1 y.2.2.1, 1, y.2.2.2.map encRow⟩ :: (rowsC y.2.2.2))) (fun (z : List (List Int)) (y : Option Addr × Nat × Nat × List Row) => nums y.2.2.2 = z ∧ True) h ?_ ?_
  · intro t9 h7
    refine kwp_block ?_
    refine kwp_loopE (inv := [(1, .pointer (some p1_2))]) (fun (z : List (List Int) × Int) (y : Option Addr × Nat × Nat × List Row) => [(3, .slice y.1 y.2.1 y.2.2.1), (4, .int .i64 z.2)]) (fun (z : List (List Int) × Int) (y : Option Addr × Nat × Nat × List Row) => (⟨.slice y.1 y.2.1 y.2.2.1, 1, y.2.2.2.map encRow⟩ :: ⟨.pointer (some p1_2), 2, [[.int .i64 s0.st, .slice s01a s0.legs.length s01c]]⟩ :: (rowsC y.2.2.2))) (fun (z : List (List Int) × Int) (y : Option Addr × Nat × Nat × List Row) => nums y.2.2.2 = z.1 ∧ True) h7 ⟨(some a4, 0, 0, R5), hd_mk ⟨hR5, trivial⟩⟩ ?_
    intro z14 y15 b12 hp16 h13
    obtain ⟨out10, set11⟩ := z14
    obtain ⟨out10a, out10n, out10c, out10R⟩ := y15
    obtain ⟨hout10R, _⟩ := hp16
    refine k_lenM (c := out10c) (m := out10) hout10R (fun hl17 => ?_)
    subst hl17
    unfold p_spec_TreesAll_L0 at h13
    refine kwp_seq ?_
    refine kwp_seq ?_
    refine kwp_cutE (inv := [(1, .pointer (some p1_2)), (3, .slice out10a out10.length out10c), (4, .int .i64 set11)]) (fun (z : Bool) (y : Unit) => [(17, .bool z)]) (fun (z : Bool) (y : Unit) => (⟨.pointer (some p1_2), 2, [[.int .i64 s0.st, .slice s01a s0.legs.length s01c]]⟩ :: ⟨.slice out10a (out10.length) out10c, 1, out10R.map encRow⟩ :: (rowsC out10R))) (fun _ _ => True) h13 ?_ ?_
    · intro t21 h19
      refine kwp_region ?_
      refine kd (v_mv) ?_
      refine kd (v_fb fa_25_1) ?_
      refine kd (v_ldb Tryd.isAgg23) ?_
      refine kd (v_len Tryd.runUnderlying23) ?_
      obtain ⟨hz22, h19⟩ := e_need h19
      refine kd (v_shl (h0 := hz22)) ?_
      refine kd (v_cmp) ?_
      refine kd (v_mv) ?_
      refine kops_split 14 rfl (fun hb23 => ?_) (fun hb23 => ?_)
      ·
        replace h19 := e_t h19 hb23
        refine kgd hb23 (v_ldB Tryd.isAgg25 Tryd.sizeOf25) ?_
        obtain ⟨v25, hv24, h19⟩ := e_bind h19
        refine kgk hb23 (n_call Tryd.call39 (w_spec_SurveyValid s01a s0.legs.length s01c hv24) ?_)
        rintro _ _ ⟨rfl, rfl⟩
        refine kd (v_pt hb23) ?_
        refine kops_nil ?_
        refine kn_then ?_
        obtain rfl := e_some h19
        exact ⟨(), hd_mk trivial⟩
      ·
        replace h19 := e_f h19 hb23
        refine kskip hb23 ?_
        refine kskip hb23 ?_
        refine kd (v_pf hb23) ?_
        refine kops_nil ?_
        refine kn_then ?_
        obtain rfl := e_some h19
        exact ⟨(), hd_mk trivial⟩
    · intro x18 y28 _ h29
      refine kn_then ?_
      refine kwp_cond rfl (fun hc30 => ?_) (fun hc30 => ?_)
      ·
        replace h29 := e_t h29 hc30
        refine kwp_skip ?_
        refine kn_then ?_
        refine kwp_seq ?_
        refine kwp_block ?_
        refine kwp_seq ?_
        refine kwp_region ?_
        refine kd (v_ldB Tryd.isAgg25 Tryd.sizeOf25) ?_
        refine kd (v_mv) ?_
        obtain ⟨⟨v32, v33⟩, hv31, h29⟩ := e_bind h29
        refine kk (n_call Tryd.call96 (w_spec_l2Chosen s01a s0.legs.length s01c hv31) ?_)
        rintro _ _ ⟨q341a, q341c, q35a, q35c, rfl, rfl⟩
        refine kd (v_mv) ?_
        refine kd (v_ex) ?_
        refine kd (v_ex) ?_
        refine kops_nilchunk 5 (by decide) ?_
        refine kk (n_alloc (e := [.int .i64 0, .slice none 0 0]) 2 Tryd.zeroValue25 (fun p5_36 => ?_))
        refine kk (s_B (e' := [.int .i64 v32.st, .slice q341a v32.legs.length q341c]) Tryd.sizeOf25 ?_)
        refine kd (v_as) ?_
        refine kops_nil ?_
        refine kn_then ?_
        refine kwp_seq ?_
        refine kwp_cutE (inv := [(1, .pointer (some p1_2)), (3, .slice out10a out10.length out10c), (4, .int .i64 set11), (6, .slice q35a v33.length q35c)]) (fun (z : Bool) (y : Unit) => [(36, .bool z)]) (fun (z : Bool) (y : Unit) => (⟨.pointer (some p1_2), 2, [[.int .i64 s0.st, .slice s01a s0.legs.length s01c]]⟩ :: ⟨.slice out10a (out10.length) out10c, 1, out10R.map encRow⟩ :: ⟨.slice q35a v33.length q35c, 1, v33.map encI⟩ :: (rowsC out10R))) (fun _ _ => True) h29 ?_ ?_
        · intro t40 h38
          refine kwp_region ?_
          refine kd (v_mv) ?_
          refine kd (v_len Tryd.runUnderlying26) ?_
          refine kd (v_fb fa_25_0) ?_
          refine kd (v_ldb Tryd.isAgg3) ?_
          refine kd (v_sub) ?_
          refine kd (v_cmp) ?_
          refine kd (v_mv) ?_
          refine kops_split 32 rfl (fun hb41 => ?_) (fun hb41 => ?_)
          ·
            replace h38 := e_t h38 hb41
            refine kgd hb41 (v_ldB Tryd.isAgg25 Tryd.sizeOf25) ?_
            obtain ⟨v43, hv42, h38⟩ := e_bind h38
            refine kgk hb41 (n_call Tryd.call79 (w_spec_PartsMany q341a v32.legs.length q341c hv42) ?_)
            rintro _ _ ⟨rfl, rfl⟩
            refine kgd hb41 (v_cmp) ?_
            refine kd (v_pt hb41) ?_
            refine kops_nil ?_
            refine kn_then ?_
            obtain rfl := e_some h38
            exact ⟨(), hd_mk trivial⟩
          ·
            replace h38 := e_f h38 hb41
            refine kskip hb41 ?_
            refine kskip hb41 ?_
            refine kskip hb41 ?_
            refine kd (v_pf hb41) ?_
            refine kops_nil ?_
            refine kn_then ?_
            obtain rfl := e_some h38
            exact ⟨(), hd_mk trivial⟩
        · intro x37 y46 _ h47
          refine kn_then ?_
          refine kwp_cond rfl (fun hc48 => ?_) (fun hc48 => ?_)
          ·
            replace h47 := e_t h47 hc48
            refine kwp_region ?_
            refine kd (v_mv) ?_
            refine kd (v_mv) ?_
            refine kk (n_lit (enc := fun v => v) [_] [[.slice q35a v33.length q35c]] Tryd.runUnderlying51 Tryd.sizeOf26 Tryd.zeroValue26 (fun a49 => ?_))
            obtain ⟨hz50, h47⟩ := e_need h47
            refine kk (n_appM (l := v33) hout10R hz50 Tryd.underlying51 Tryd.type26 (by decide) (fun a51 c52 R53 hR53 => ?_))
            refine kd (v_as) ?_
            refine kops_nil ?_
            refine kn_block ?_
            refine kn_then ?_
            refine kwp_region ?_
            refine kd (v_mv) ?_
            refine kd (v_add) ?_
            refine kd (v_as) ?_
            refine kops_nil ?_
            refine kn_then ?_
            obtain rfl := e_some h47
            exact ⟨_, (a51, (out10 ++ [v33]).length, c52, R53), rfl, hd_mk ⟨hR53, trivial⟩⟩
          ·
            replace h47 := e_f h47 hc48
            refine kwp_skip ?_
            refine kn_block ?_
            refine kn_then ?_
            refine kwp_region ?_
            refine kd (v_mv) ?_
            refine kd (v_add) ?_
            refine kd (v_as) ?_
            refine kops_nil ?_
            refine kn_then ?_
            obtain rfl := e_some h47
            exact ⟨_, (out10a, out10.length, out10c, out10R), rfl, hd_mk ⟨hout10R, trivial⟩⟩
      ·
        replace h29 := e_f h29 hc30
        refine kwp_exit ?_
        refine ke_then ?_
        obtain rfl := e_some h29
        refine k_out ?_ rfl
        rintro rfl
        refine ke_block ?_
        exact ⟨(out10a, out10.length, out10c, out10R), hd_mk ⟨hout10R, trivial⟩⟩
  · intro out6 y55 hp57 h56
    obtain ⟨out6a, out6n, out6c, out6R⟩ := y55
    obtain ⟨hout6R, _⟩ := hp57
    refine k_lenM (c := out6c) (m := out6) hout6R (fun hl58 => ?_)
    subst hl58
    refine kwp_seq ?_
    refine kwp_region ?_
    refine kd (v_mv) ?_
    refine kd (v_as) ?_
    refine kops_nil ?_
    refine kn_then ?_
    refine kwp_ret ?_
    obtain rfl := e_some h56
    refine r1 (⟨.slice out6a (out6.length) out6c, 1, out6R.map encRow⟩ :: (rowsC out6R)) ?_
    exact ⟨out6a, out6c, out6R, rfl, hout6R, rfl⟩

end Go.Proofs.YtnibfmofkamjoaaDoor
