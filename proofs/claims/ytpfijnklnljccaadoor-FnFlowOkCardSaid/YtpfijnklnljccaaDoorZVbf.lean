/- What the plain programs return, the functions of the program return; no condition. -/
import Derived.Test.YtpfijnklnljccaaDoorZQ
import Derived.Test.YtpfijnklnljccaaDoorZFa
import Derived.Test.YtpfijnklnljccaaDoorZVbw
namespace Go.Proofs.YtpfijnklnljccaaDoor
open Go
set_option linter.unusedVariables false
set_option linter.unusedSimpArgs false

set_option maxRecDepth 20000 in
theorem w_impl_flowFits (m01a : Option Addr) (m01n : Nat) (m01c : Nat) (flow0a : Option Addr) (flow0n : Nat) (flow0c : Nat) {m0 : Mine} {flow0 : List Int} {r : Bool} (h : p_impl_flowFits m0 flow0 = some r) :
    Triple Tryd.prog 74 [.agg #[.int .i64 m0.p, .slice m01a m01n m01c], .slice flow0a flow0n flow0c] [⟨.slice m01a m01n m01c, 3, m0.aw.map encAirway⟩, ⟨.slice flow0a flow0n flow0c, 1, flow0.map encI⟩] [] (fun v ch => v = .bool r ∧ ch = []) := by
  refine triple_start 23 Tryd.func74 Tryd.ntmps74 rfl rfl (fun w0 => ?_)
  refine k_len (c := m01c) (fun hl1 => ?_)
  subst hl1
  refine k_len (c := flow0c) (fun hl2 => ?_)
  subst hl2
  unfold p_impl_flowFits at h
  refine kwp_seq ?_
  refine kwp_region ?_
  refine kk (n_box (e := [.int .i64 m0.p, .slice m01a m0.aw.length m01c]) 2 (fun p2_3 => ?_))
  refine kd (v_as) ?_
  refine kops_nil ?_
  refine kn_then ?_
  refine kwp_seq ?_
  refine kwp_seq ?_
  refine kwp_region ?_
  refine kd (v_mv) ?_
  refine kd (v_len Tryd.runUnderlying46) ?_
  refine kd (v_fb fa_32_1) ?_
  refine kd (v_ldb Tryd.isAgg30) ?_
  refine kd (v_len Tryd.runUnderlying30) ?_
  refine kd (v_cmp) ?_
  refine kops_nil ?_
  refine kn_then ?_
  refine kwp_cond rfl (fun hc4 => ?_) (fun hc4 => ?_)
  ·
    replace h := e_t h hc4
    refine kwp_seq ?_
    refine kwp_region ?_
    refine kd (v_as) ?_
    refine kops_nil ?_
    refine kn_then ?_
    refine kwp_ret ?_
    refine kr_then ?_
    obtain rfl := e_some h
    refine r1 [] ?_
    exact ⟨rfl, rfl⟩
  ·
    replace h := e_f h hc4
    refine kwp_skip ?_
    refine kn_then ?_
    refine kwp_seq ?_
    refine kwp_seq ?_
    refine kwp_region ?_
    refine kd (v_mv) ?_
    refine kd (v_len Tryd.runUnderlying46) ?_
    refine kd (v_mv) ?_
    refine kops_nil ?_
    refine kn_then ?_
    refine kwp_cutO (inv := []) (fun (z : Unit) (y : Unit) => []) (fun (z : Unit) (y : Unit) => []) (fun _ _ => True) h ?_ ?_
    · intro t7 h5 g6
      refine kwp_block ?_
      refine kwp_loopE (inv := [(13, .slice flow0a flow0.length flow0c), (14, .int .i64 ((flow0.length : Nat) : Int))]) (fun (z : Int) (y : Unit) => [(15, .int .i64 z)]) (fun (z : Int) (y : Unit) => []) (fun _ _ => True) h5 ⟨(), hd_mk trivial⟩ ?_
      intro x8 y12 b9 _ h10
      unfold p_impl_flowFits_L0 at h10
      refine kwp_seq ?_
      refine kwp_region ?_
      refine kd (v_cmp) ?_
      refine kops_nil ?_
      refine kn_then ?_
      refine kwp_seq ?_
      refine kwp_cond rfl (fun hc13 => ?_) (fun hc13 => ?_)
      ·
        replace h10 := e_t h10 hc13
        refine kwp_skip ?_
        refine kn_then ?_
        refine kwp_seq ?_
        refine kwp_block ?_
        refine kwp_seq ?_
        refine kwp_region ?_
        obtain ⟨j14, ej14, nj14, h10⟩ := e_idx h10
        refine kd (v_ia ej14 nj14 Tryd.runUnderlying46 Tryd.sizeOf3) ?_
        refine kd (v_ldf nj14 Tryd.isAgg3) ?_
        refine kd (v_as) ?_
        refine kops_nil ?_
        refine kn_then ?_
        refine kwp_seq ?_
        refine kwp_region ?_
        refine kd (v_mv) ?_
        obtain ⟨v16, hv15, h10⟩ := e_bind h10
        refine kk (n_call Tryd.call89 (w_impl_isWithin hv15) ?_)
        rintro _ _ ⟨rfl, rfl⟩
        refine kd (v_not) ?_
        refine kops_nil ?_
        refine kn_then ?_
        refine kwp_cond rfl (fun hc18 => ?_) (fun hc18 => ?_)
        ·
          replace h10 := e_t h10 hc18
          refine kwp_seq ?_
          refine kwp_region ?_
          refine kd (v_as) ?_
          refine kops_nil ?_
          refine kn_then ?_
          refine kwp_ret ?_
          refine kr_block ?_
          refine kr_then ?_
          refine kr_then ?_
          obtain rfl := e_some h10
          refine k_out ?_ rfl
          rintro rfl
          refine kr_block ?_
          refine kr_then ?_
          refine kr_then ?_
          obtain rfl := e_some g6
          refine r1 [] ?_
          exact ⟨rfl, rfl⟩
        ·
          replace h10 := e_f h10 hc18
          refine kwp_skip ?_
          refine kn_block ?_
          refine kn_then ?_
          refine kwp_region ?_
          refine kd (v_add) ?_
          refine kd (v_mv) ?_
          refine kops_nil ?_
          refine kn_then ?_
          obtain rfl := e_some h10
          exact ⟨_, (), rfl, hd_mk trivial⟩
      ·
        replace h10 := e_f h10 hc13
        refine kwp_exit ?_
        refine ke_then ?_
        obtain rfl := e_some h10
        refine k_out ?_ rfl
        rintro rfl
        refine ke_block ?_
        exact ⟨_, (), rfl, hd_mk trivial⟩
    · intro z19 y20 _ h21
      refine kn_then ?_
      refine kwp_seq ?_
      refine kwp_region ?_
      refine kd (v_as) ?_
      refine kops_nil ?_
      refine kn_then ?_
      refine kwp_ret ?_
      obtain rfl := e_some h21
      refine r1 [] ?_
      exact ⟨rfl, rfl⟩

set_option maxRecDepth 20000 in
theorem w_impl_FlowLoss (m01a : Option Addr) (m01n : Nat) (m01c : Nat) (flow0a : Option Addr) (flow0n : Nat) (flow0c : Nat) {m0 : Mine} {flow0 : List Int} {r : Int} (h : p_impl_FlowLoss m0 flow0 = some r) :
    Triple Tryd.prog 33 [.agg #[.int .i64 m0.p, .slice m01a m01n m01c], .slice flow0a flow0n flow0c] [⟨.slice m01a m01n m01c, 3, m0.aw.map encAirway⟩, ⟨.slice flow0a flow0n flow0c, 1, flow0.map encI⟩] [] (fun v ch => v = .int .i64 r ∧ ch = []) := by
  refine triple_start 42 Tryd.func33 Tryd.ntmps33 rfl rfl (fun w0 => ?_)
  refine k_len (c := m01c) (fun hl1 => ?_)
  subst hl1
  refine k_len (c := flow0c) (fun hl2 => ?_)
  subst hl2
  unfold p_impl_FlowLoss at h
  refine kwp_seq ?_
  refine kwp_region ?_
  refine kk (n_box (e := [.int .i64 m0.p, .slice m01a m0.aw.length m01c]) 2 (fun p2_3 => ?_))
  refine kd (v_as) ?_
  refine kops_nil ?_
  refine kn_then ?_
  refine kwp_seq ?_
  refine kwp_seq ?_
  refine kwp_cutE (inv := [(1, .slice flow0a flow0.length flow0c), (2, .pointer (some p2_3))]) (fun (z : Bool) (y : Unit) => [(16, .bool z)]) (fun (z : Bool) (y : Unit) => [⟨.pointer (some p2_3), 2, [[.int .i64 m0.p, .slice m01a m0.aw.length m01c]]⟩]) (fun _ _ => True) h ?_ ?_
  · intro t7 h5
    refine kwp_region ?_
    refine kd (v_ldB Tryd.isAgg32 Tryd.sizeOf32) ?_
    obtain ⟨v9, hv8, h5⟩ := e_bind h5
    refine kk (n_call Tryd.call20 (w_impl_MineValid m01a m0.aw.length m01c hv8) ?_)
    rintro _ _ ⟨rfl, rfl⟩
    refine kd (v_not) ?_
    refine kd (v_mv) ?_
    refine kops_split 11 rfl (fun hb11 => ?_) (fun hb11 => ?_)
    ·
      replace h5 := e_t h5 hb11
      refine kskip hb11 ?_
      refine kskip hb11 ?_
      refine kskip hb11 ?_
      refine kskip hb11 ?_
      refine kd (v_pt hb11) ?_
      refine kops_nil ?_
      refine kn_then ?_
      obtain rfl := e_some h5
      exact ⟨(), hd_mk trivial⟩
    ·
      replace h5 := e_f h5 hb11
      refine kgd hb11 (v_ldB Tryd.isAgg32 Tryd.sizeOf32) ?_
      refine kgd hb11 (v_mv) ?_
      obtain ⟨v13, hv12, h5⟩ := e_bind h5
      refine kgk hb11 (n_call Tryd.call74 (w_impl_flowFits m01a m0.aw.length m01c flow0a flow0.length flow0c hv12) ?_)
      rintro _ _ ⟨rfl, rfl⟩
      refine kgd hb11 (v_not) ?_
      refine kd (v_pf hb11) ?_
      refine kops_nil ?_
      refine kn_then ?_
      obtain rfl := e_some h5
      exact ⟨(), hd_mk trivial⟩
  · intro x4 y16 _ h17
    refine kn_then ?_
    refine kwp_cond rfl (fun hc18 => ?_) (fun hc18 => ?_)
    ·
      replace h17 := e_t h17 hc18
      refine kwp_seq ?_
      refine kwp_region ?_
      refine kd (v_as) ?_
      refine kops_nil ?_
      refine kn_then ?_
      refine kwp_ret ?_
      refine kr_then ?_
      obtain rfl := e_some h17
      refine r1 [] ?_
      exact ⟨rfl, rfl⟩
    ·
      replace h17 := e_f h17 hc18
      refine kwp_skip ?_
      refine kn_then ?_
      refine kwp_seq ?_
      refine kwp_region ?_
      refine kd (v_as) ?_
      refine kops_nil ?_
      refine kn_then ?_
      refine kwp_seq ?_
      refine kwp_seq ?_
      refine kwp_region ?_
      refine kd (v_fb fa_32_1) ?_
      refine kd (v_ldb Tryd.isAgg30) ?_
      refine kd (v_len Tryd.runUnderlying30) ?_
      refine kd (v_mv) ?_
      refine kops_nil ?_
      refine kn_then ?_
      refine kwp_cutE (inv := []) (fun (z : Int) (y : Unit) => [(5, .int .i64 z)]) (fun (z : Int) (y : Unit) => []) (fun _ _ => True) h17 ?_ ?_
      · intro t22 h20
        refine kwp_block ?_
        refine kwp_loopE (inv := [(1, .slice flow0a flow0.length flow0c), (18, .slice m01a m0.aw.length m01c), (19, .int .i64 ((m0.aw.length : Nat) : Int))]) (fun (z : Int × Int) (y : Unit) => [(5, .int .i64 z.1), (20, .int .i64 z.2)]) (fun (z : Int × Int) (y : Unit) => []) (fun _ _ => True) h20 ⟨(), hd_mk trivial⟩ ?_
        intro z27 y28 b25 _ h26
        obtain ⟨sum23, x24⟩ := z27
        unfold p_impl_FlowLoss_L0 at h26
        refine kwp_seq ?_
        refine kwp_region ?_
        refine kd (v_cmp) ?_
        refine kops_nil ?_
        refine kn_then ?_
        refine kwp_seq ?_
        refine kwp_cond rfl (fun hc29 => ?_) (fun hc29 => ?_)
        ·
          replace h26 := e_t h26 hc29
          refine kwp_skip ?_
          refine kn_then ?_
          refine kwp_seq ?_
          refine kwp_block ?_
          refine kwp_seq ?_
          refine kwp_region ?_
          refine kd (v_mv) ?_
          obtain ⟨j30, ej30, nj30, h26⟩ := e_idx h26
          refine kd (v_ia ej30 nj30 Tryd.runUnderlying30 Tryd.sizeOf36) ?_
          refine kd (v_lda (e := [_, _, _]) nj30 Tryd.isAgg36 Tryd.sizeOf36) ?_
          refine kk (n_alloc (e := [.int .i64 0, .int .i64 0, .int .i64 0]) 3 Tryd.zeroValue36 (fun p7_31 => ?_))
          refine kd (v_as) ?_
          refine kk (s_B (e' := [.int .i64 ((gx m0.aw j30).f), .int .i64 ((gx m0.aw j30).t), .int .i64 ((gx m0.aw j30).w)]) Tryd.sizeOf36 ?_)
          refine kops_nil ?_
          refine kn_then ?_
          obtain ⟨j32, ej32, nj32, h26⟩ := e_idx h26
          obtain ⟨hz33, h26⟩ := e_need h26
          refine kwp_tree (.quiet 0 (.quiet 1 (.quiet 2 (.quiet 3 (.quiet 4 (.quiet 5 (.quiet 6 (.quiet 7 (.quiet 8 (.quiet 9 (.quiet 10 (.quiet 11 (.quiet 12 (.quiet 13 (.quiet 14 (.quiet 15 .stop)))))))))))))))) [] [⟨.pointer (some p7_31), 3, [[.int .i64 ((gx m0.aw j30).f), .int .i64 ((gx m0.aw j30).t), .int .i64 ((gx m0.aw j30).w)]]⟩] drawMixed (by kernel_rfl) nopan (by (repeat (first | exact Sub.refl _ | exact Sub.nil _ | refine Sub.chunk (by repeat (first | exact Pick.here | apply Pick.there | apply Pick.seg)) (by rfl) ?_ | refine Sub.seg (by repeat (first | exact PickSeg.here | exact PickSeg.all | apply PickSeg.there | apply PickSeg.seg)) ?_ | exact Sub.seg0 (by repeat (first | exact PickSeg.here | exact PickSeg.all | apply PickSeg.there | apply PickSeg.seg)) | apply Sub.assoc))) ?_
          refine kt_d rfl rfl rfl (v_mv) ?_
          refine kt_d rfl rfl rfl (v_mv) ?_
          refine kt_d rfl rfl rfl (v_mv) ?_
          refine kt_d rfl rfl rfl (v_ia ej32 nj32 Tryd.runUnderlying46 Tryd.sizeOf3) ?_
          refine kt_d rfl rfl rfl (v_ldf nj32 Tryd.isAgg3) ?_
          refine kt_d rfl rfl rfl (v_mv) ?_
          refine kt_d rfl rfl rfl (v_mv) ?_
          refine kt_d rfl rfl rfl (v_ia ej32 nj32 Tryd.runUnderlying46 Tryd.sizeOf3) ?_
          refine kt_d rfl rfl rfl (v_ldf nj32 Tryd.isAgg3) ?_
          refine kt_d rfl rfl rfl (v_mul) ?_
          refine kt_d rfl rfl rfl (v_fb fa_36_2) ?_
          refine kt_d rfl rfl rfl (v_ldb Tryd.isAgg3) ?_
          refine kt_d rfl rfl rfl (v_quo (h0 := hz33)) ?_
          refine kt_d rfl rfl rfl (v_mul) ?_
          refine kt_d rfl rfl rfl (v_add) ?_
          refine kt_d rfl rfl rfl (v_as) ?_
          refine kt_nil ?_
          refine kn_block ?_
          refine kn_then ?_
          refine kwp_region ?_
          refine kd (v_add) ?_
          refine kd (v_mv) ?_
          refine kops_nil ?_
          refine kn_then ?_
          obtain rfl := e_some h26
          exact ⟨_, (), rfl, hd_mk trivial⟩
        ·
          replace h26 := e_f h26 hc29
          refine kwp_exit ?_
          refine ke_then ?_
          obtain rfl := e_some h26
          refine k_out ?_ rfl
          rintro rfl
          refine ke_block ?_
          exact ⟨(), hd_mk trivial⟩
      · intro sum19 y35 _ h36
        refine kn_then ?_
        refine kwp_seq ?_
        refine kwp_region ?_
        refine kd (v_mv) ?_
        refine kd (v_as) ?_
        refine kops_nil ?_
        refine kn_then ?_
        refine kwp_ret ?_
        obtain rfl := e_some h36
        refine r1 [] ?_
        exact ⟨rfl, rfl⟩

set_option maxRecDepth 20000 in
set_option maxHeartbeats 2000000 in
theorem w_impl_FlowOk (m01a : Option Addr) (m01n : Nat) (m01c : Nat) (flow0a : Option Addr) (flow0n : Nat) (flow0c : Nat) {m0 : Mine} {in0 : Int} {out0 : Int} {amount0 : Int} {flow0 : List Int} {r : Bool} (h : p_impl_FlowOk m0 in0 out0 amount0 flow0 = some r) :
    Triple Tryd.prog 50 [.agg #[.int .i64 m0.p, .slice m01a m01n m01c], .int .i64 in0, .int .i64 out0, .int .i64 amount0, .slice flow0a flow0n flow0c] [⟨.slice m01a m01n m01c, 3, m0.aw.map encAirway⟩, ⟨.slice flow0a flow0n flow0c, 1, flow0.map encI⟩] [] (fun v ch => v = .bool r ∧ ch = []) := by
  refine triple_start 104 Tryd.func50 Tryd.ntmps50 rfl rfl (fun w0 => ?_)
  refine k_len (c := m01c) (fun hl1 => ?_)
  subst hl1
  refine k_len (c := flow0c) (fun hl2 => ?_)
  subst hl2
  unfold p_impl_FlowOk at h
  refine kwp_seq ?_
  refine kwp_region ?_
  refine kk (n_box (e := [.int .i64 m0.p, .slice m01a m0.aw.length m01c]) 2 (fun p5_3 => ?_))
  refine kd (v_as) ?_
  refine kops_nil ?_
  refine kn_then ?_
  refine kwp_seq ?_
  refine kwp_seq ?_
  refine kwp_cutE (inv := [(1, .int .i64 in0), (2, .int .i64 out0), (3, .int .i64 amount0), (4, .slice flow0a flow0.length flow0c), (5, .pointer (some p5_3))]) (fun (z : Bool) (y : Unit) => [(39, .bool z)]) (fun (z : Bool) (y : Unit) => [⟨.pointer (some p5_3), 2, [[.int .i64 m0.p, .slice m01a m0.aw.length m01c]]⟩]) (fun _ _ => True) h ?_ ?_
  · intro t7 h5
    refine kwp_region ?_
    refine kd (v_ldB Tryd.isAgg32 Tryd.sizeOf32) ?_
    obtain ⟨v9, hv8, h5⟩ := e_bind h5
    refine kk (n_call Tryd.call20 (w_impl_MineValid m01a m0.aw.length m01c hv8) ?_)
    rintro _ _ ⟨rfl, rfl⟩
    refine kd (v_not) ?_
    refine kd (v_mv) ?_
    refine kops_split 20 rfl (fun hb11 => ?_) (fun hb11 => ?_)
    ·
      replace h5 := e_t h5 hb11
      refine kskip hb11 ?_
      refine kskip hb11 ?_
      refine kskip hb11 ?_
      refine kskip hb11 ?_
      refine kskip hb11 ?_
      refine kd (v_pt hb11) ?_
      refine kd (v_mv) ?_
      refine kskip rfl ?_
      refine kskip rfl ?_
      refine kskip rfl ?_
      refine kskip rfl ?_
      refine kskip rfl ?_
      refine kd (v_pt rfl) ?_
      refine kd (v_mv) ?_
      refine kskip rfl ?_
      refine kskip rfl ?_
      refine kskip rfl ?_
      refine kskip rfl ?_
      refine kd (v_pt rfl) ?_
      refine kops_nil ?_
      refine kn_then ?_
      obtain rfl := e_some h5
      exact ⟨(), hd_mk trivial⟩
    ·
      replace h5 := e_f h5 hb11
      refine kgd hb11 (v_mv) ?_
      refine kgd hb11 (v_fb fa_32_0) ?_
      refine kgd hb11 (v_ldb Tryd.isAgg3) ?_
      obtain ⟨v13, hv12, h5⟩ := e_bind h5
      refine kgk hb11 (n_call Tryd.call63 (w_impl_isIndex hv12) ?_)
      rintro _ _ ⟨rfl, rfl⟩
      refine kgd hb11 (v_not) ?_
      refine kd (v_pf hb11) ?_
      refine kd (v_mv) ?_
      refine kops_split 27 rfl (fun hb15 => ?_) (fun hb15 => ?_)
      ·
        replace h5 := e_t h5 hb15
        refine kskip hb15 ?_
        refine kskip hb15 ?_
        refine kskip hb15 ?_
        refine kskip hb15 ?_
        refine kskip hb15 ?_
        refine kd (v_pt hb15) ?_
        refine kd (v_mv) ?_
        refine kskip rfl ?_
        refine kskip rfl ?_
        refine kskip rfl ?_
        refine kskip rfl ?_
        refine kd (v_pt rfl) ?_
        refine kops_nil ?_
        refine kn_then ?_
        obtain rfl := e_some h5
        exact ⟨(), hd_mk trivial⟩
      ·
        replace h5 := e_f h5 hb15
        refine kgd hb15 (v_mv) ?_
        refine kgd hb15 (v_fb fa_32_0) ?_
        refine kgd hb15 (v_ldb Tryd.isAgg3) ?_
        obtain ⟨v17, hv16, h5⟩ := e_bind h5
        refine kgk hb15 (n_call Tryd.call63 (w_impl_isIndex hv16) ?_)
        rintro _ _ ⟨rfl, rfl⟩
        refine kgd hb15 (v_not) ?_
        refine kd (v_pf hb15) ?_
        refine kd (v_mv) ?_
        refine kops_split 34 rfl (fun hb19 => ?_) (fun hb19 => ?_)
        ·
          replace h5 := e_t h5 hb19
          refine kskip hb19 ?_
          refine kskip hb19 ?_
          refine kskip hb19 ?_
          refine kskip hb19 ?_
          refine kd (v_pt hb19) ?_
          refine kops_nil ?_
          refine kn_then ?_
          obtain rfl := e_some h5
          exact ⟨(), hd_mk trivial⟩
        ·
          replace h5 := e_f h5 hb19
          refine kgd hb19 (v_ldB Tryd.isAgg32 Tryd.sizeOf32) ?_
          refine kgd hb19 (v_mv) ?_
          obtain ⟨v21, hv20, h5⟩ := e_bind h5
          refine kgk hb19 (n_call Tryd.call74 (w_impl_flowFits m01a m0.aw.length m01c flow0a flow0.length flow0c hv20) ?_)
          rintro _ _ ⟨rfl, rfl⟩
          refine kgd hb19 (v_not) ?_
          refine kd (v_pf hb19) ?_
          refine kops_nil ?_
          refine kn_then ?_
          obtain rfl := e_some h5
          exact ⟨(), hd_mk trivial⟩
  · intro x4 y24 _ h25
    refine kn_then ?_
    refine kwp_cond rfl (fun hc26 => ?_) (fun hc26 => ?_)
    ·
      replace h25 := e_t h25 hc26
      refine kwp_seq ?_
      refine kwp_region ?_
      refine kd (v_as) ?_
      refine kops_nil ?_
      refine kn_then ?_
      refine kwp_ret ?_
      refine kr_then ?_
      obtain rfl := e_some h25
      refine r1 [] ?_
      exact ⟨rfl, rfl⟩
    ·
      replace h25 := e_f h25 hc26
      refine kwp_skip ?_
      refine kn_then ?_
      refine kwp_seq ?_
      refine kwp_region ?_
      refine kd (v_fb fa_32_0) ?_
      refine kd (v_ldb Tryd.isAgg3) ?_
      obtain ⟨j27, ej27, nj27, h25⟩ := e_sized h25
      refine kk (n_make (enc := encI) 0 ej27 nj27 Tryd.underlying46 Tryd.type3 (by decide) (fun a28 => ?_))
      refine kd (v_as) ?_
      refine kops_nil ?_
      refine kn_then ?_
      refine kwp_seq ?_
      refine kwp_seq ?_
      refine kwp_region ?_
      refine kd (v_fb fa_32_1) ?_
      refine kd (v_ldb Tryd.isAgg30) ?_
      refine kd (v_len Tryd.runUnderlying30) ?_
      refine kd (v_mv) ?_
      refine kops_nil ?_
      refine kn_then ?_
      refine kwp_cutE (inv := [(1, .int .i64 in0), (2, .int .i64 out0), (3, .int .i64 amount0), (11, .slice (some a28) j27 j27)]) (fun (z : List Int) (y : Unit) => []) (fun (z : List Int) (y : Unit) => [⟨.slice (some a28) j27 j27, 1, z.map encI⟩]) (fun _ _ => True) h25 ?_ ?_
      · intro t32 h30
        refine kwp_block ?_
        refine kwp_loopE (inv := [(1, .int .i64 in0), (2, .int .i64 out0), (3, .int .i64 amount0), (4, .slice flow0a flow0.length flow0c), (11, .slice (some a28) j27 j27), (44, .slice m01a m0.aw.length m01c), (45, .int .i64 ((m0.aw.length : Nat) : Int))]) (fun (z : Int × List Int) (y : Unit) => [(46, .int .i64 z.1)]) (fun (z : Int × List Int) (y : Unit) => [⟨.slice (some a28) j27 j27, 1, z.2.map encI⟩]) (fun _ _ => True) h30 ⟨(), hd_mk trivial⟩ ?_
        intro z37 y38 b35 _ h36
        obtain ⟨x33, l34⟩ := z37
        unfold p_impl_FlowOk_L0 at h36
        refine kwp_seq ?_
        refine kwp_region ?_
        refine kd (v_cmp) ?_
        refine kops_nil ?_
        refine kn_then ?_
        refine kwp_seq ?_
        refine kwp_cond rfl (fun hc39 => ?_) (fun hc39 => ?_)
        ·
          replace h36 := e_t h36 hc39
          refine kwp_skip ?_
          refine kn_then ?_
          refine kwp_seq ?_
          refine kwp_block ?_
          refine kwp_seq ?_
          refine kwp_region ?_
          refine kd (v_mv) ?_
          obtain ⟨j40, ej40, nj40, h36⟩ := e_idx h36
          refine kd (v_ia ej40 nj40 Tryd.runUnderlying30 Tryd.sizeOf36) ?_
          refine kd (v_lda (e := [_, _, _]) nj40 Tryd.isAgg36 Tryd.sizeOf36) ?_
          refine kk (n_alloc (e := [.int .i64 0, .int .i64 0, .int .i64 0]) 3 Tryd.zeroValue36 (fun p13_41 => ?_))
          refine kd (v_as) ?_
          refine kk (s_B (e' := [.int .i64 ((gx m0.aw j40).f), .int .i64 ((gx m0.aw j40).t), .int .i64 ((gx m0.aw j40).w)]) Tryd.sizeOf36 ?_)
          refine kops_nil ?_
          refine kn_then ?_
          refine kwp_seq ?_
          obtain ⟨j42, ej42, nj42, h36⟩ := e_idx h36
          obtain ⟨j43, ej43, nj43, h36⟩ := e_idx h36
          refine kwp_tree (.quiet 0 (.quiet 1 (.quiet 2 (.quiet 3 (.quiet 4 (.quiet 5 (.quiet 6 (.quiet 7 (.quiet 8 (.quiet 9 (.quiet 10 (.one 11 .stop)))))))))))) [11] [⟨.slice (some a28) j27 j27, 1, l34.map encI⟩, ⟨.pointer (some p13_41), 3, [[.int .i64 ((gx m0.aw j40).f), .int .i64 ((gx m0.aw j40).t), .int .i64 ((gx m0.aw j40).w)]]⟩] drawMixed (by kernel_rfl) nopan (by (repeat (first | exact Sub.refl _ | exact Sub.nil _ | refine Sub.chunk (by repeat (first | exact Pick.here | apply Pick.there | apply Pick.seg)) (by rfl) ?_ | refine Sub.seg (by repeat (first | exact PickSeg.here | exact PickSeg.all | apply PickSeg.there | apply PickSeg.seg)) ?_ | exact Sub.seg0 (by repeat (first | exact PickSeg.here | exact PickSeg.all | apply PickSeg.there | apply PickSeg.seg)) | apply Sub.assoc))) ?_
          refine kt_d rfl rfl rfl (v_mv) ?_
          refine kt_d rfl rfl rfl (v_fb fa_36_0) ?_
          refine kt_d rfl rfl rfl (v_ldb Tryd.isAgg3) ?_
          refine kt_d rfl rfl rfl (v_ia ej42 nj42 Tryd.runUnderlying46 Tryd.sizeOf3) ?_
          refine kt_d rfl rfl rfl (v_ldf nj42 Tryd.isAgg3) ?_
          refine kt_d rfl rfl rfl (v_mv) ?_
          refine kt_d rfl rfl rfl (v_mv) ?_
          refine kt_d rfl rfl rfl (v_ia ej43 nj43 Tryd.runUnderlying46 Tryd.sizeOf3) ?_
          refine kt_d rfl rfl rfl (v_ldf nj43 Tryd.isAgg3) ?_
          refine kt_d rfl rfl rfl (v_add) ?_
          refine kt_d rfl rfl rfl (v_ia ej42 nj42 Tryd.runUnderlying46 Tryd.sizeOf3) ?_
          refine kt_one ?_
          refine kl_k rfl rfl (s_f (w64 ((gx l34 j42) + (gx flow0 j43))) nj42 Tryd.sizeOf3 ?_)
          refine ⟨.inr ⟨by decide, rfl⟩, ?_⟩
          refine kt_nil ?_
          refine kn_then ?_
          obtain ⟨j44, ej44, nj44, h36⟩ := e_idx h36
          refine kwp_tree (.quiet 0 (.quiet 1 (.quiet 2 (.quiet 3 (.quiet 4 (.quiet 5 (.quiet 6 (.quiet 7 (.quiet 8 (.quiet 9 (.quiet 10 (.one 11 .stop)))))))))))) [11] [⟨.slice (some a28) j27 j27, 1, (l34.set j42 (w64 ((gx l34 j42) + (gx flow0 j43)))).map encI⟩, ⟨.pointer (some p13_41), 3, [[.int .i64 ((gx m0.aw j40).f), .int .i64 ((gx m0.aw j40).t), .int .i64 ((gx m0.aw j40).w)]]⟩] drawMixed (by kernel_rfl) nopan (by (repeat (first | exact Sub.refl _ | exact Sub.nil _ | refine Sub.chunk (by repeat (first | exact Pick.here | apply Pick.there | apply Pick.seg)) (by rfl) ?_ | refine Sub.seg (by repeat (first | exact PickSeg.here | exact PickSeg.all | apply PickSeg.there | apply PickSeg.seg)) ?_ | exact Sub.seg0 (by repeat (first | exact PickSeg.here | exact PickSeg.all | apply PickSeg.there | apply PickSeg.seg)) | apply Sub.assoc))) ?_
          refine kt_d rfl rfl rfl (v_mv) ?_
          refine kt_d rfl rfl rfl (v_fb fa_36_1) ?_
          refine kt_d rfl rfl rfl (v_ldb Tryd.isAgg3) ?_
          refine kt_d rfl rfl rfl (v_ia ej44 nj44 Tryd.runUnderlying46 Tryd.sizeOf3) ?_
          refine kt_d rfl rfl rfl (v_ldf nj44 Tryd.isAgg3) ?_
          refine kt_d rfl rfl rfl (v_mv) ?_
          refine kt_d rfl rfl rfl (v_mv) ?_
          refine kt_d rfl rfl rfl (v_ia ej43 nj43 Tryd.runUnderlying46 Tryd.sizeOf3) ?_
          refine kt_d rfl rfl rfl (v_ldf nj43 Tryd.isAgg3) ?_
          refine kt_d rfl rfl rfl (v_sub) ?_
          refine kt_d rfl rfl rfl (v_ia ej44 nj44 Tryd.runUnderlying46 Tryd.sizeOf3) ?_
          refine kt_one ?_
          refine kl_k rfl rfl (s_f (w64 ((gx (l34.set j42 (w64 ((gx l34 j42) + (gx flow0 j43)))) j44) - (gx flow0 j43))) nj44 Tryd.sizeOf3 ?_)
          refine ⟨.inr ⟨by decide, rfl⟩, ?_⟩
          refine kt_nil ?_
          refine kn_block ?_
          refine kn_then ?_
          refine kwp_region ?_
          refine kd (v_add) ?_
          refine kd (v_mv) ?_
          refine kops_nil ?_
          refine kn_then ?_
          obtain rfl := e_some h36
          exact ⟨_, (), rfl, hd_mk trivial⟩
        ·
          replace h36 := e_f h36 hc39
          refine kwp_exit ?_
          refine ke_then ?_
          obtain rfl := e_some h36
          refine k_out ?_ rfl
          rintro rfl
          refine ke_block ?_
          exact ⟨(), hd_mk trivial⟩
      · intro l29 y46 _ h47
        refine kn_then ?_
        refine kwp_seq ?_
        refine kwp_seq ?_
        refine kwp_region ?_
        refine kd (v_mv) ?_
        refine kd (v_len Tryd.runUnderlying46) ?_
        refine kd (v_mv) ?_
        refine kops_nil ?_
        refine kn_then ?_
        refine kwp_cutO (inv := []) (fun (z : Unit) (y : Unit) => []) (fun (z : Unit) (y : Unit) => []) (fun _ _ => True) h47 ?_ ?_
        · intro t50 h48 g49
          refine kwp_block ?_
          refine kwp_loopE (inv := [(1, .int .i64 in0), (2, .int .i64 out0), (3, .int .i64 amount0), (74, .slice (some a28) j27 j27), (75, .int .i64 ((j27 : Nat) : Int))]) (fun (z : Int) (y : Unit) => [(76, .int .i64 z)]) (fun (z : Int) (y : Unit) => [⟨.slice (some a28) j27 j27, 1, l29.map encI⟩]) (fun _ _ => True) h48 ⟨(), hd_mk trivial⟩ ?_
          intro x51 y55 b52 _ h53
          unfold p_impl_FlowOk_L1 at h53
          refine kwp_seq ?_
          refine kwp_region ?_
          refine kd (v_cmp) ?_
          refine kops_nil ?_
          refine kn_then ?_
          refine kwp_seq ?_
          refine kwp_cond rfl (fun hc56 => ?_) (fun hc56 => ?_)
          ·
            replace h53 := e_t h53 hc56
            refine kwp_skip ?_
            refine kn_then ?_
            refine kwp_seq ?_
            refine kwp_block ?_
            refine kwp_seq ?_
            refine kwp_region ?_
            refine kd (v_mv) ?_
            obtain ⟨j57, ej57, nj57, h53⟩ := e_idx h53
            refine kd (v_ia ej57 nj57 Tryd.runUnderlying46 Tryd.sizeOf3) ?_
            refine kd (v_ldf nj57 Tryd.isAgg3) ?_
            refine kd (v_as) ?_
            refine kd (v_as) ?_
            refine kops_nil ?_
            refine kn_then ?_
            refine kwp_seq ?_
            refine kwp_region ?_
            refine kd (v_as) ?_
            refine kops_nil ?_
            refine kn_then ?_
            refine kwp_seq ?_
            refine kwp_seq ?_
            refine kwp_cutE (inv := [(1, .int .i64 in0), (2, .int .i64 out0), (3, .int .i64 amount0), (14, .int .i64 x51), (15, .int .i64 (gx l29 j57)), (16, .int .i64 0), (74, .slice (some a28) j27 j27), (75, .int .i64 ((j27 : Nat) : Int)), (76, .int .i64 x51)]) (fun (z : Bool) (y : Unit) => [(88, .bool z)]) (fun (z : Bool) (y : Unit) => [⟨.slice (some a28) j27 j27, 1, l29.map encI⟩]) (fun _ _ => True) h53 ?_ ?_
            · intro t61 h59
              refine kwp_region ?_
              refine kd (v_mv) ?_
              refine kd (v_mv) ?_
              refine kd (v_cmp) ?_
              refine kd (v_mv) ?_
              refine kops_split 84 rfl (fun hb62 => ?_) (fun hb62 => ?_)
              ·
                replace h59 := e_t h59 hb62
                refine kgd hb62 (v_mv) ?_
                refine kgd hb62 (v_mv) ?_
                refine kgd hb62 (v_cmp) ?_
                refine kd (v_pt hb62) ?_
                refine kops_nil ?_
                refine kn_then ?_
                obtain rfl := e_some h59
                exact ⟨(), hd_mk trivial⟩
              ·
                replace h59 := e_f h59 hb62
                refine kskip hb62 ?_
                refine kskip hb62 ?_
                refine kskip hb62 ?_
                refine kd (v_pf hb62) ?_
                refine kops_nil ?_
                refine kn_then ?_
                obtain rfl := e_some h59
                exact ⟨(), hd_mk trivial⟩
            · intro x58 y64 _ h65
              refine kn_then ?_
              refine kwp_cutE (inv := [(1, .int .i64 in0), (2, .int .i64 out0), (3, .int .i64 amount0), (14, .int .i64 x51), (15, .int .i64 (gx l29 j57)), (74, .slice (some a28) j27 j27), (75, .int .i64 ((j27 : Nat) : Int)), (76, .int .i64 x51)]) (fun (z : Int) (y : Unit) => [(16, .int .i64 z)]) (fun (z : Int) (y : Unit) => [⟨.slice (some a28) j27 j27, 1, l29.map encI⟩]) (fun _ _ => True) h65 ?_ ?_
              · intro t69 h67
                refine kwp_cond rfl (fun hc70 => ?_) (fun hc70 => ?_)
                ·
                  replace h67 := e_t h67 hc70
                  refine kwp_region ?_
                  refine kd (v_mv) ?_
                  refine kd (v_as) ?_
                  refine kops_nil ?_
                  refine kn_then ?_
                  obtain rfl := e_some h67
                  exact ⟨(), hd_mk trivial⟩
                ·
                  replace h67 := e_f h67 hc70
                  refine kwp_skip ?_
                  refine kn_then ?_
                  obtain rfl := e_some h67
                  exact ⟨(), hd_mk trivial⟩
              · intro wanted66 y72 _ h73
                refine kn_then ?_
                refine kwp_seq ?_
                refine kwp_seq ?_
                refine kwp_cutE (inv := [(1, .int .i64 in0), (2, .int .i64 out0), (3, .int .i64 amount0), (15, .int .i64 (gx l29 j57)), (16, .int .i64 wanted66), (74, .slice (some a28) j27 j27), (75, .int .i64 ((j27 : Nat) : Int)), (76, .int .i64 x51)]) (fun (z : Bool) (y : Unit) => [(97, .bool z)]) (fun (z : Bool) (y : Unit) => [⟨.slice (some a28) j27 j27, 1, l29.map encI⟩]) (fun _ _ => True) h73 ?_ ?_
                · intro t77 h75
                  refine kwp_region ?_
                  refine kd (v_mv) ?_
                  refine kd (v_mv) ?_
                  refine kd (v_cmp) ?_
                  refine kd (v_mv) ?_
                  refine kops_split 93 rfl (fun hb78 => ?_) (fun hb78 => ?_)
                  ·
                    replace h75 := e_t h75 hb78
                    refine kgd hb78 (v_mv) ?_
                    refine kgd hb78 (v_mv) ?_
                    refine kgd hb78 (v_cmp) ?_
                    refine kd (v_pt hb78) ?_
                    refine kops_nil ?_
                    refine kn_then ?_
                    obtain rfl := e_some h75
                    exact ⟨(), hd_mk trivial⟩
                  ·
                    replace h75 := e_f h75 hb78
                    refine kskip hb78 ?_
                    refine kskip hb78 ?_
                    refine kskip hb78 ?_
                    refine kd (v_pf hb78) ?_
                    refine kops_nil ?_
                    refine kn_then ?_
                    obtain rfl := e_some h75
                    exact ⟨(), hd_mk trivial⟩
                · intro x74 y80 _ h81
                  refine kn_then ?_
                  refine kwp_cond rfl (fun hc82 => ?_) (fun hc82 => ?_)
                  ·
                    replace h81 := e_t h81 hc82
                    refine kwp_region ?_
                    refine kd (v_mv) ?_
                    refine kd (v_neg) ?_
                    refine kd (v_as) ?_
                    refine kops_nil ?_
                    refine kn_then ?_
                    refine kwp_seq ?_
                    refine kwp_region ?_
                    refine kd (v_mv) ?_
                    refine kd (v_mv) ?_
                    refine kd (v_cmp) ?_
                    refine kops_nil ?_
                    refine kn_then ?_
                    refine kwp_cond rfl (fun hc83 => ?_) (fun hc83 => ?_)
                    ·
                      replace h81 := e_t h81 hc83
                      refine kwp_seq ?_
                      refine kwp_region ?_
                      refine kd (v_as) ?_
                      refine kops_nil ?_
                      refine kn_then ?_
                      refine kwp_ret ?_
                      refine kr_block ?_
                      refine kr_then ?_
                      refine kr_then ?_
                      obtain rfl := e_some h81
                      refine k_out ?_ rfl
                      rintro rfl
                      refine kr_block ?_
                      refine kr_then ?_
                      refine kr_then ?_
                      obtain rfl := e_some g49
                      refine r1 [] ?_
                      exact ⟨rfl, rfl⟩
                    ·
                      replace h81 := e_f h81 hc83
                      refine kwp_skip ?_
                      refine kn_block ?_
                      refine kn_then ?_
                      refine kwp_region ?_
                      refine kd (v_add) ?_
                      refine kd (v_mv) ?_
                      refine kops_nil ?_
                      refine kn_then ?_
                      obtain rfl := e_some h81
                      exact ⟨_, (), rfl, hd_mk trivial⟩
                  ·
                    replace h81 := e_f h81 hc82
                    refine kwp_skip ?_
                    refine kn_then ?_
                    refine kwp_seq ?_
                    refine kwp_region ?_
                    refine kd (v_mv) ?_
                    refine kd (v_mv) ?_
                    refine kd (v_cmp) ?_
                    refine kops_nil ?_
                    refine kn_then ?_
                    refine kwp_cond rfl (fun hc84 => ?_) (fun hc84 => ?_)
                    ·
                      replace h81 := e_t h81 hc84
                      refine kwp_seq ?_
                      refine kwp_region ?_
                      refine kd (v_as) ?_
                      refine kops_nil ?_
                      refine kn_then ?_
                      refine kwp_ret ?_
                      refine kr_block ?_
                      refine kr_then ?_
                      refine kr_then ?_
                      obtain rfl := e_some h81
                      refine k_out ?_ rfl
                      rintro rfl
                      refine kr_block ?_
                      refine kr_then ?_
                      refine kr_then ?_
                      obtain rfl := e_some g49
                      refine r1 [] ?_
                      exact ⟨rfl, rfl⟩
                    ·
                      replace h81 := e_f h81 hc84
                      refine kwp_skip ?_
                      refine kn_block ?_
                      refine kn_then ?_
                      refine kwp_region ?_
                      refine kd (v_add) ?_
                      refine kd (v_mv) ?_
                      refine kops_nil ?_
                      refine kn_then ?_
                      obtain rfl := e_some h81
                      exact ⟨_, (), rfl, hd_mk trivial⟩
          ·
            replace h53 := e_f h53 hc56
            refine kwp_exit ?_
            refine ke_then ?_
            obtain rfl := e_some h53
            refine k_out ?_ rfl
            rintro rfl
            refine ke_block ?_
            exact ⟨_, (), rfl, hd_mk trivial⟩
        · intro z85 y86 _ h87
          refine kn_then ?_
          refine kwp_seq ?_
          refine kwp_region ?_
          refine kd (v_as) ?_
          refine kops_nil ?_
          refine kn_then ?_
          refine kwp_ret ?_
          obtain rfl := e_some h87
          refine r1 [] ?_
          exact ⟨rfl, rfl⟩

set_option maxRecDepth 20000 in
set_option maxHeartbeats 2000000 in
theorem w_spec_FlowOk (m01a : Option Addr) (m01n : Nat) (m01c : Nat) (flow0a : Option Addr) (flow0n : Nat) (flow0c : Nat) {m0 : Mine} {in0 : Int} {out0 : Int} {amount0 : Int} {flow0 : List Int} {r : Bool} (h : p_spec_FlowOk m0 in0 out0 amount0 flow0 = some r) :
    Triple Tryd.prog 51 [.agg #[.int .i64 m0.p, .slice m01a m01n m01c], .int .i64 in0, .int .i64 out0, .int .i64 amount0, .slice flow0a flow0n flow0c] [⟨.slice m01a m01n m01c, 3, m0.aw.map encAirway⟩, ⟨.slice flow0a flow0n flow0c, 1, flow0.map encI⟩] [] (fun v ch => v = .bool r ∧ ch = []) := by
  refine triple_start 129 Tryd.func51 Tryd.ntmps51 rfl rfl (fun w0 => ?_)
  refine k_len (c := m01c) (fun hl1 => ?_)
  subst hl1
  refine k_len (c := flow0c) (fun hl2 => ?_)
  subst hl2
  unfold p_spec_FlowOk at h
  refine kwp_seq ?_
  refine kwp_region ?_
  refine kk (n_box (e := [.int .i64 m0.p, .slice m01a m0.aw.length m01c]) 2 (fun p5_3 => ?_))
  refine kd (v_as) ?_
  refine kops_nil ?_
  refine kn_then ?_
  refine kwp_seq ?_
  refine kwp_seq ?_
  refine kwp_cutE (inv := [(1, .int .i64 in0), (2, .int .i64 out0), (3, .int .i64 amount0), (4, .slice flow0a flow0.length flow0c), (5, .pointer (some p5_3))]) (fun (z : Bool) (y : Unit) => [(40, .bool z)]) (fun (z : Bool) (y : Unit) => [⟨.pointer (some p5_3), 2, [[.int .i64 m0.p, .slice m01a m0.aw.length m01c]]⟩]) (fun _ _ => True) h ?_ ?_
  · intro t7 h5
    refine kwp_region ?_
    refine kd (v_ldB Tryd.isAgg32 Tryd.sizeOf32) ?_
    obtain ⟨v9, hv8, h5⟩ := e_bind h5
    refine kk (n_call Tryd.call21 (w_spec_MineValid m01a m0.aw.length m01c hv8) ?_)
    rintro _ _ ⟨rfl, rfl⟩
    refine kd (v_not) ?_
    refine kd (v_mv) ?_
    refine kops_split 17 rfl (fun hb11 => ?_) (fun hb11 => ?_)
    ·
      replace h5 := e_t h5 hb11
      refine kskip hb11 ?_
      refine kskip hb11 ?_
      refine kskip hb11 ?_
      refine kskip hb11 ?_
      refine kskip hb11 ?_
      refine kskip hb11 ?_
      refine kd (v_pt hb11) ?_
      refine kd (v_mv) ?_
      refine kskip rfl ?_
      refine kskip rfl ?_
      refine kskip rfl ?_
      refine kskip rfl ?_
      refine kskip rfl ?_
      refine kskip rfl ?_
      refine kd (v_pt rfl) ?_
      refine kd (v_mv) ?_
      refine kskip rfl ?_
      refine kskip rfl ?_
      refine kskip rfl ?_
      refine kskip rfl ?_
      refine kskip rfl ?_
      refine kskip rfl ?_
      refine kd (v_pt rfl) ?_
      refine kops_nil ?_
      refine kn_then ?_
      obtain rfl := e_some h5
      exact ⟨(), hd_mk trivial⟩
    ·
      replace h5 := e_f h5 hb11
      refine kgd hb11 (v_mv) ?_
      refine kgd hb11 (v_fb fa_32_0) ?_
      refine kgd hb11 (v_ldb Tryd.isAgg3) ?_
      refine kgd hb11 (v_sub) ?_
      obtain ⟨v13, hv12, h5⟩ := e_bind h5
      refine kgk hb11 (n_call Tryd.call60 (w_spec_l1In hv12) ?_)
      rintro _ _ ⟨rfl, rfl⟩
      refine kgd hb11 (v_not) ?_
      refine kd (v_pf hb11) ?_
      refine kd (v_mv) ?_
      refine kops_split 25 rfl (fun hb15 => ?_) (fun hb15 => ?_)
      ·
        replace h5 := e_t h5 hb15
        refine kskip hb15 ?_
        refine kskip hb15 ?_
        refine kskip hb15 ?_
        refine kskip hb15 ?_
        refine kskip hb15 ?_
        refine kskip hb15 ?_
        refine kd (v_pt hb15) ?_
        refine kd (v_mv) ?_
        refine kskip rfl ?_
        refine kskip rfl ?_
        refine kskip rfl ?_
        refine kskip rfl ?_
        refine kskip rfl ?_
        refine kskip rfl ?_
        refine kd (v_pt rfl) ?_
        refine kops_nil ?_
        refine kn_then ?_
        obtain rfl := e_some h5
        exact ⟨(), hd_mk trivial⟩
      ·
        replace h5 := e_f h5 hb15
        refine kgd hb15 (v_mv) ?_
        refine kgd hb15 (v_fb fa_32_0) ?_
        refine kgd hb15 (v_ldb Tryd.isAgg3) ?_
        refine kgd hb15 (v_sub) ?_
        obtain ⟨v17, hv16, h5⟩ := e_bind h5
        refine kgk hb15 (n_call Tryd.call60 (w_spec_l1In hv16) ?_)
        rintro _ _ ⟨rfl, rfl⟩
        refine kgd hb15 (v_not) ?_
        refine kd (v_pf hb15) ?_
        refine kd (v_mv) ?_
        refine kops_split 33 rfl (fun hb19 => ?_) (fun hb19 => ?_)
        ·
          replace h5 := e_t h5 hb19
          refine kskip hb19 ?_
          refine kskip hb19 ?_
          refine kskip hb19 ?_
          refine kskip hb19 ?_
          refine kskip hb19 ?_
          refine kskip hb19 ?_
          refine kd (v_pt hb19) ?_
          refine kops_nil ?_
          refine kn_then ?_
          obtain rfl := e_some h5
          exact ⟨(), hd_mk trivial⟩
        ·
          replace h5 := e_f h5 hb19
          refine kgd hb19 (v_mv) ?_
          refine kgd hb19 (v_len Tryd.runUnderlying46) ?_
          refine kgd hb19 (v_fb fa_32_1) ?_
          refine kgd hb19 (v_ldb Tryd.isAgg30) ?_
          refine kgd hb19 (v_len Tryd.runUnderlying30) ?_
          refine kgd hb19 (v_cmp) ?_
          refine kd (v_pf hb19) ?_
          refine kops_nil ?_
          refine kn_then ?_
          obtain rfl := e_some h5
          exact ⟨(), hd_mk trivial⟩
  · intro x4 y21 _ h22
    refine kn_then ?_
    refine kwp_cond rfl (fun hc23 => ?_) (fun hc23 => ?_)
    ·
      replace h22 := e_t h22 hc23
      refine kwp_seq ?_
      refine kwp_region ?_
      refine kd (v_as) ?_
      refine kops_nil ?_
      refine kn_then ?_
      refine kwp_ret ?_
      refine kr_then ?_
      obtain rfl := e_some h22
      refine r1 [] ?_
      exact ⟨rfl, rfl⟩
    ·
      replace h22 := e_f h22 hc23
      refine kwp_skip ?_
      refine kn_then ?_
      refine kwp_seq ?_
      refine kwp_region ?_
      refine kd (v_fb fa_32_0) ?_
      refine kd (v_ldb Tryd.isAgg3) ?_
      obtain ⟨j24, ej24, nj24, h22⟩ := e_sized h22
      refine kk (n_make (enc := encI) 0 ej24 nj24 Tryd.underlying46 Tryd.type3 (by decide) (fun a25 => ?_))
      refine kd (v_as) ?_
      refine kops_nil ?_
      refine kn_then ?_
      refine kwp_seq ?_
      refine kwp_seq ?_
      refine kwp_region ?_
      refine kd (v_as) ?_
      refine kops_nil ?_
      refine kn_then ?_
      refine kwp_cutO (inv := [(1, .int .i64 in0), (2, .int .i64 out0), (3, .int .i64 amount0), (11, .slice (some a25) j24 j24)]) (fun (z : List Int) (y : Unit) => []) (fun (z : List Int) (y : Unit) => [⟨.slice (some a25) j24 j24, 1, z.map encI⟩]) (fun _ _ => True) h22 ?_ ?_
      · intro t29 h27 g28
        refine kwp_block ?_
        refine kwp_loopE (inv := [(1, .int .i64 in0), (2, .int .i64 out0), (3, .int .i64 amount0), (4, .slice flow0a flow0.length flow0c), (5, .pointer (some p5_3)), (11, .slice (some a25) j24 j24)]) (fun (z : Int × List Int) (y : Unit) => [(12, .int .i64 z.1)]) (fun (z : Int × List Int) (y : Unit) => [⟨.slice (some a25) j24 j24, 1, z.2.map encI⟩, ⟨.pointer (some p5_3), 2, [[.int .i64 m0.p, .slice m01a m0.aw.length m01c]]⟩]) (fun _ _ => True) h27 ⟨(), hd_mk trivial⟩ ?_
        intro z34 y35 b32 _ h33
        obtain ⟨k30, l31⟩ := z34
        unfold p_spec_FlowOk_L0 at h33
        refine kwp_seq ?_
        refine kwp_seq ?_
        refine kwp_region ?_
        refine kd (v_mv) ?_
        refine kd (v_mv) ?_
        refine kd (v_len Tryd.runUnderlying46) ?_
        refine kd (v_cmp) ?_
        refine kops_nil ?_
        refine kn_then ?_
        refine kwp_cond rfl (fun hc36 => ?_) (fun hc36 => ?_)
        ·
          replace h33 := e_t h33 hc36
          refine kwp_skip ?_
          refine kn_then ?_
          refine kwp_seq ?_
          refine kwp_block ?_
          refine kwp_seq ?_
          refine kwp_seq ?_
          refine kwp_region ?_
          refine kd (v_mv) ?_
          refine kd (v_mv) ?_
          obtain ⟨j37, ej37, nj37, h33⟩ := e_idx h33
          refine kd (v_ia ej37 nj37 Tryd.runUnderlying46 Tryd.sizeOf3) ?_
          refine kd (v_ldf nj37 Tryd.isAgg3) ?_
          obtain ⟨v39, hv38, h33⟩ := e_bind h33
          refine kk (n_call Tryd.call60 (w_spec_l1In hv38) ?_)
          rintro _ _ ⟨rfl, rfl⟩
          refine kd (v_not) ?_
          refine kops_nil ?_
          refine kn_then ?_
          refine kwp_cond rfl (fun hc41 => ?_) (fun hc41 => ?_)
          ·
            replace h33 := e_t h33 hc41
            refine kwp_seq ?_
            refine kwp_region ?_
            refine kd (v_as) ?_
            refine kops_nil ?_
            refine kn_then ?_
            refine kwp_ret ?_
            refine kr_then ?_
            refine kr_block ?_
            refine kr_then ?_
            refine kr_then ?_
            obtain rfl := e_some h33
            refine k_out ?_ rfl
            rintro rfl
            refine kr_block ?_
            refine kr_then ?_
            refine kr_then ?_
            obtain rfl := e_some g28
            refine r1 [] ?_
            exact ⟨rfl, rfl⟩
          ·
            replace h33 := e_f h33 hc41
            refine kwp_skip ?_
            refine kn_then ?_
            refine kwp_seq ?_
            obtain ⟨j42, ej42, nj42, h33⟩ := e_idx h33
            obtain ⟨j43, ej43, nj43, h33⟩ := e_idx h33
            refine kwp_tree (.quiet 0 (.quiet 1 (.quiet 2 (.quiet 3 (.quiet 4 (.quiet 5 (.quiet 6 (.quiet 7 (.quiet 8 (.quiet 9 (.quiet 10 (.quiet 11 (.quiet 12 (.quiet 13 (.quiet 14 (.quiet 15 (.quiet 16 (.quiet 17 (.quiet 18 (.quiet 19 (.quiet 20 (.quiet 21 (.one 22 .stop))))))))))))))))))))))) [22] [⟨.pointer (some p5_3), 2, [[.int .i64 m0.p, .slice m01a m0.aw.length m01c]]⟩, ⟨.slice (some a25) j24 j24, 1, l31.map encI⟩] drawMixed (by kernel_rfl) nopan (by (repeat (first | exact Sub.refl _ | exact Sub.nil _ | refine Sub.chunk (by repeat (first | exact Pick.here | apply Pick.there | apply Pick.seg)) (by rfl) ?_ | refine Sub.seg (by repeat (first | exact PickSeg.here | exact PickSeg.all | apply PickSeg.there | apply PickSeg.seg)) ?_ | exact Sub.seg0 (by repeat (first | exact PickSeg.here | exact PickSeg.all | apply PickSeg.there | apply PickSeg.seg)) | apply Sub.assoc))) ?_
            refine kt_d rfl rfl rfl (v_mv) ?_
            refine kt_d rfl rfl rfl (v_fb fa_32_1) ?_
            refine kt_d rfl rfl rfl (v_ldb Tryd.isAgg30) ?_
            refine kt_d rfl rfl rfl (v_mv) ?_
            refine kt_d rfl rfl rfl (v_ia ej42 nj42 Tryd.runUnderlying30 Tryd.sizeOf36) ?_
            refine kt_d rfl rfl rfl (v_fa nj42 fa_36_0) ?_
            refine kt_d rfl rfl rfl (v_ldf nj42 Tryd.isAgg3) ?_
            refine kt_d rfl rfl rfl (v_mv) ?_
            refine kt_d rfl rfl rfl (v_fb fa_32_1) ?_
            refine kt_d rfl rfl rfl (v_ldb Tryd.isAgg30) ?_
            refine kt_d rfl rfl rfl (v_mv) ?_
            refine kt_d rfl rfl rfl (v_ia ej42 nj42 Tryd.runUnderlying30 Tryd.sizeOf36) ?_
            refine kt_d rfl rfl rfl (v_fa nj42 fa_36_0) ?_
            refine kt_d rfl rfl rfl (v_ldf nj42 Tryd.isAgg3) ?_
            refine kt_d rfl rfl rfl (v_ia ej43 nj43 Tryd.runUnderlying46 Tryd.sizeOf3) ?_
            refine kt_d rfl rfl rfl (v_ldf nj43 Tryd.isAgg3) ?_
            refine kt_d rfl rfl rfl (v_mv) ?_
            refine kt_d rfl rfl rfl (v_mv) ?_
            refine kt_d rfl rfl rfl (v_ia ej37 nj37 Tryd.runUnderlying46 Tryd.sizeOf3) ?_
            refine kt_d rfl rfl rfl (v_ldf nj37 Tryd.isAgg3) ?_
            refine kt_d rfl rfl rfl (v_add) ?_
            refine kt_d rfl rfl rfl (v_ia ej43 nj43 Tryd.runUnderlying46 Tryd.sizeOf3) ?_
            refine kt_one ?_
            refine kl_k rfl rfl (s_f (w64 ((gx l31 j43) + (gx flow0 j37))) nj43 Tryd.sizeOf3 ?_)
            refine ⟨.inr ⟨by decide, rfl⟩, ?_⟩
            refine kt_nil ?_
            refine kn_then ?_
            obtain ⟨j44, ej44, nj44, h33⟩ := e_idx h33
            refine kwp_tree (.quiet 0 (.quiet 1 (.quiet 2 (.quiet 3 (.quiet 4 (.quiet 5 (.quiet 6 (.quiet 7 (.quiet 8 (.quiet 9 (.quiet 10 (.quiet 11 (.quiet 12 (.quiet 13 (.quiet 14 (.quiet 15 (.quiet 16 (.quiet 17 (.quiet 18 (.quiet 19 (.quiet 20 (.quiet 21 (.one 22 .stop))))))))))))))))))))))) [22] [⟨.pointer (some p5_3), 2, [[.int .i64 m0.p, .slice m01a m0.aw.length m01c]]⟩, ⟨.slice (some a25) j24 j24, 1, (l31.set j43 (w64 ((gx l31 j43) + (gx flow0 j37)))).map encI⟩] drawMixed (by kernel_rfl) nopan (by (repeat (first | exact Sub.refl _ | exact Sub.nil _ | refine Sub.chunk (by repeat (first | exact Pick.here | apply Pick.there | apply Pick.seg)) (by rfl) ?_ | refine Sub.seg (by repeat (first | exact PickSeg.here | exact PickSeg.all | apply PickSeg.there | apply PickSeg.seg)) ?_ | exact Sub.seg0 (by repeat (first | exact PickSeg.here | exact PickSeg.all | apply PickSeg.there | apply PickSeg.seg)) | apply Sub.assoc))) ?_
            refine kt_d rfl rfl rfl (v_mv) ?_
            refine kt_d rfl rfl rfl (v_fb fa_32_1) ?_
            refine kt_d rfl rfl rfl (v_ldb Tryd.isAgg30) ?_
            refine kt_d rfl rfl rfl (v_mv) ?_
            refine kt_d rfl rfl rfl (v_ia ej42 nj42 Tryd.runUnderlying30 Tryd.sizeOf36) ?_
            refine kt_d rfl rfl rfl (v_fa nj42 fa_36_1) ?_
            refine kt_d rfl rfl rfl (v_ldf nj42 Tryd.isAgg3) ?_
            refine kt_d rfl rfl rfl (v_mv) ?_
            refine kt_d rfl rfl rfl (v_fb fa_32_1) ?_
            refine kt_d rfl rfl rfl (v_ldb Tryd.isAgg30) ?_
            refine kt_d rfl rfl rfl (v_mv) ?_
            refine kt_d rfl rfl rfl (v_ia ej42 nj42 Tryd.runUnderlying30 Tryd.sizeOf36) ?_
            refine kt_d rfl rfl rfl (v_fa nj42 fa_36_1) ?_
            refine kt_d rfl rfl rfl (v_ldf nj42 Tryd.isAgg3) ?_
            refine kt_d rfl rfl rfl (v_ia ej44 nj44 Tryd.runUnderlying46 Tryd.sizeOf3) ?_
            refine kt_d rfl rfl rfl (v_ldf nj44 Tryd.isAgg3) ?_
            refine kt_d rfl rfl rfl (v_mv) ?_
            refine kt_d rfl rfl rfl (v_mv) ?_
            refine kt_d rfl rfl rfl (v_ia ej37 nj37 Tryd.runUnderlying46 Tryd.sizeOf3) ?_
            refine kt_d rfl rfl rfl (v_ldf nj37 Tryd.isAgg3) ?_
            refine kt_d rfl rfl rfl (v_sub) ?_
            refine kt_d rfl rfl rfl (v_ia ej44 nj44 Tryd.runUnderlying46 Tryd.sizeOf3) ?_
            refine kt_one ?_
            refine kl_k rfl rfl (s_f (w64 ((gx (l31.set j43 (w64 ((gx l31 j43) + (gx flow0 j37)))) j44) - (gx flow0 j37))) nj44 Tryd.sizeOf3 ?_)
            refine ⟨.inr ⟨by decide, rfl⟩, ?_⟩
            refine kt_nil ?_
            refine kn_block ?_
            refine kn_then ?_
            refine kwp_region ?_
            refine kd (v_mv) ?_
            refine kd (v_add) ?_
            refine kd (v_as) ?_
            refine kops_nil ?_
            refine kn_then ?_
            obtain rfl := e_some h33
            exact ⟨_, (), rfl, hd_mk trivial⟩
        ·
          replace h33 := e_f h33 hc36
          refine kwp_exit ?_
          refine ke_then ?_
          obtain rfl := e_some h33
          refine k_out ?_ rfl
          rintro rfl
          refine ke_block ?_
          exact ⟨_, (), rfl, hd_mk trivial⟩
      · intro l26 y46 _ h47
        refine kn_then ?_
        refine kwp_seq ?_
        refine kwp_region ?_
        refine kd (v_mv) ?_
        refine kd (v_mv) ?_
        refine kd (v_mv) ?_
        refine kd (v_mv) ?_
        obtain ⟨j48, ej48, nj48, h47⟩ := e_idx h47
        refine kd (v_ia ej48 nj48 Tryd.runUnderlying46 Tryd.sizeOf3) ?_
        refine kd (v_ldf nj48 Tryd.isAgg3) ?_
        refine kd (v_mv) ?_
        refine kd (v_sub) ?_
        refine kd (v_ia ej48 nj48 Tryd.runUnderlying46 Tryd.sizeOf3) ?_
        refine kk (s_f (w64 ((gx l26 j48) - amount0)) nj48 Tryd.sizeOf3 ?_)
        refine kops_nil ?_
        refine kn_then ?_
        refine kwp_seq ?_
        refine kwp_region ?_
        refine kd (v_mv) ?_
        refine kd (v_mv) ?_
        refine kd (v_mv) ?_
        refine kd (v_mv) ?_
        obtain ⟨j49, ej49, nj49, h47⟩ := e_idx h47
        refine kd (v_ia ej49 nj49 Tryd.runUnderlying46 Tryd.sizeOf3) ?_
        refine kd (v_ldf nj49 Tryd.isAgg3) ?_
        refine kd (v_mv) ?_
        refine kd (v_add) ?_
        refine kd (v_ia ej49 nj49 Tryd.runUnderlying46 Tryd.sizeOf3) ?_
        refine kk (s_f (w64 ((gx (l26.set j48 (w64 ((gx l26 j48) - amount0))) j49) + amount0)) nj49 Tryd.sizeOf3 ?_)
        refine kops_nil ?_
        refine kn_then ?_
        refine kwp_seq ?_
        refine kwp_seq ?_
        refine kwp_region ?_
        refine kd (v_as) ?_
        refine kops_nil ?_
        refine kn_then ?_
        refine kwp_cutO (inv := []) (fun (z : Unit) (y : Unit) => []) (fun (z : Unit) (y : Unit) => []) (fun _ _ => True) h47 ?_ ?_
        · intro t52 h50 g51
          refine kwp_block ?_
          refine kwp_loopE (inv := [(11, .slice (some a25) j24 j24)]) (fun (z : Int) (y : Unit) => [(13, .int .i64 z)]) (fun (z : Int) (y : Unit) => [⟨.slice (some a25) j24 j24, 1, ((l26.set j48 (w64 ((gx l26 j48) - amount0))).set j49 (w64 ((gx (l26.set j48 (w64 ((gx l26 j48) - amount0))) j49) + amount0))).map encI⟩]) (fun _ _ => True) h50 ⟨(), hd_mk trivial⟩ ?_
          intro k53 y57 b54 _ h55
          unfold p_spec_FlowOk_L1 at h55
          refine kwp_seq ?_
          refine kwp_seq ?_
          refine kwp_region ?_
          refine kd (v_mv) ?_
          refine kd (v_mv) ?_
          refine kd (v_len Tryd.runUnderlying46) ?_
          refine kd (v_cmp) ?_
          refine kops_nil ?_
          refine kn_then ?_
          refine kwp_cond rfl (fun hc58 => ?_) (fun hc58 => ?_)
          ·
            replace h55 := e_t h55 hc58
            refine kwp_skip ?_
            refine kn_then ?_
            refine kwp_seq ?_
            refine kwp_block ?_
            refine kwp_seq ?_
            refine kwp_region ?_
            refine kd (v_mv) ?_
            refine kd (v_mv) ?_
            obtain ⟨j59, ej59, nj59, h55⟩ := e_idx h55
            refine kd (v_ia ej59 nj59 Tryd.runUnderlying46 Tryd.sizeOf3) ?_
            refine kd (v_ldf nj59 Tryd.isAgg3) ?_
            refine kd (v_cmp) ?_
            refine kops_nil ?_
            refine kn_then ?_
            refine kwp_cond rfl (fun hc60 => ?_) (fun hc60 => ?_)
            ·
              replace h55 := e_t h55 hc60
              refine kwp_seq ?_
              refine kwp_region ?_
              refine kd (v_as) ?_
              refine kops_nil ?_
              refine kn_then ?_
              refine kwp_ret ?_
              refine kr_block ?_
              refine kr_then ?_
              refine kr_then ?_
              obtain rfl := e_some h55
              refine k_out ?_ rfl
              rintro rfl
              refine kr_block ?_
              refine kr_then ?_
              refine kr_then ?_
              obtain rfl := e_some g51
              refine r1 [] ?_
              exact ⟨rfl, rfl⟩
            ·
              replace h55 := e_f h55 hc60
              refine kwp_skip ?_
              refine kn_block ?_
              refine kn_then ?_
              refine kwp_region ?_
              refine kd (v_mv) ?_
              refine kd (v_add) ?_
              refine kd (v_as) ?_
              refine kops_nil ?_
              refine kn_then ?_
              obtain rfl := e_some h55
              exact ⟨_, (), rfl, hd_mk trivial⟩
          ·
            replace h55 := e_f h55 hc58
            refine kwp_exit ?_
            refine ke_then ?_
            obtain rfl := e_some h55
            refine k_out ?_ rfl
            rintro rfl
            refine ke_block ?_
            exact ⟨_, (), rfl, hd_mk trivial⟩
        · intro z61 y62 _ h63
          refine kn_then ?_
          refine kwp_seq ?_
          refine kwp_region ?_
          refine kd (v_as) ?_
          refine kops_nil ?_
          refine kn_then ?_
          refine kwp_ret ?_
          obtain rfl := e_some h63
          refine r1 [] ?_
          exact ⟨rfl, rfl⟩

end Go.Proofs.YtpfijnklnljccaaDoor
