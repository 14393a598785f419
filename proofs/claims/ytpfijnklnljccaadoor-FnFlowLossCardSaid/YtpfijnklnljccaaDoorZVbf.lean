/- What the plain programs return, the functions of the program return; no condition. -/
import Derived.Test.YtpfijnklnljccaaDoorZQ
import Derived.Test.YtpfijnklnljccaaDoorZFa
import Derived.Test.YtpfijnklnljccaaDoorZVbw
namespace Go.Proofs.YtpfijnklnljccaaDoor
open Go
set_option linter.unusedVariables false
set_option linter.unusedSimpArgs false

set_option maxRecDepth 20000 in
theorem w_impl_flowFits (m01a : Option Addr) (m01n : Nat) (m01c : Nat) (flow0a : Option Addr) (flow0n : Nat) (flow0c : Nat) {m0 : Mine} {flow0 : List Int} {r : Bool} (h : p_impl_flowFits m0 flow0 = some r) :
    Triple Tryd.prog 74 [.agg #[.int .i64 m0.p, .slice m01a m01n m01c], .slice flow0a flow0n flow0c] [⟨.slice m01a m01n m01c, 3, m0.aw.map encAirway⟩, ⟨.slice flow0a flow0n flow0c, 1, flow0.map encI⟩] [] (fun v ch => v = .bool r ∧ ch = []) := by
  refine triple_start 23 Tryd.func74 Tryd.ntmps74 rfl rfl (fun w0 => ?_)
  refine k_len (c := m01c) (fun hl1 => ?_)
  subst hl1
  refine k_len (c := flow0c) (fun hl2 => ?_)
  subst hl2
  unfold p_impl_flowFits at h
  refine kwp_seq ?_
  refine kwp_region ?_
  refine kk (n_box (e := [.int .i64 m0.p, .slice m01a m0.aw.length m01c]) 2 (fun p2_3 => ?_))
  refine kd (v_as) ?_
  refine kops_nil ?_
  refine kn_then ?_
  refine kwp_seq ?_
  refine kwp_seq ?_
  refine kwp_region ?_
  refine kd (v_mv) ?_
  refine kd (v_len Tryd.runUnderlying46) ?_
  refine kd (v_fb fa_32_1) ?_
  refine kd (v_ldb Tryd.isAgg30) ?_
  refine kd (v_len Tryd.runUnderlying30) ?_
  refine kd (v_cmp) ?_
  refine kops_nil ?_
  refine kn_then ?_
  refine kwp_cond rfl (fun hc4 => ?_) (fun hc4 => ?_)
  ·
    replace h := e_t h hc4
    refine kwp_seq ?_
    refine kwp_region ?_
    refine kd (v_as) ?_
    refine kops_nil ?_
    refine kn_then ?_
    refine kwp_ret ?_
    refine kr_then ?_
    obtain rfl := e_some h
    refine r1 [] ?_
    exact ⟨rfl, rfl⟩
  ·
    replace h := e_f h hc4
    refine kwp_skip ?_
    refine kn_then ?_
    refine kwp_seq ?_
    refine kwp_seq ?_
    refine kwp_region ?_
    refine kd (v_mv) ?_
    refine kd (v_len Tryd.runUnderlying46) ?_
    refine kd (v_mv) ?_
    refine kops_nil ?_
    refine kn_then ?_
    refine kwp_cutO (inv := []) (fun (z : Unit) (y : Unit) => []) (fun (z : Unit) (y : Unit) => []) (fun _ _ => True) h ?_ ?_
    · intro t7 h5 g6
      refine kwp_block ?_
      refine kwp_loopE (inv := [(13, .slice flow0a flow0.length flow0c), (14, .int .i64 ((flow0.length : Nat) : Int))]) (fun (z : Int) (y : Unit) => [(15, .int .i64 z)]) (fun (z : Int) (y : Unit) => []) (fun _ _ => True) h5 ⟨(), hd_mk trivial⟩ ?_
      intro x8 y12 b9 _ h10
      unfold p_impl_flowFits_L0 at h10
      refine kwp_seq ?_
      refine kwp_region ?_
      refine kd (v_cmp) ?_
      refine kops_nil ?_
      refine kn_then ?_
      refine kwp_seq ?_
      refine kwp_cond rfl (fun hc13 => ?_) (fun hc13 => ?_)
      ·
        replace h10 := e_t h10 hc13
        refine kwp_skip ?_
        refine kn_then ?_
        refine kwp_seq ?_
        refine kwp_block ?_
        refine kwp_seq ?_
        refine kwp_region ?_
        obtain ⟨j14, ej14, nj14, h10⟩ := e_idx h10
        refine kd (v_ia ej14 nj14 Tryd.runUnderlying46 Tryd.sizeOf3) ?_
        refine kd (v_ldf nj14 Tryd.isAgg3) ?_
        refine kd (v_as) ?_
        refine kops_nil ?_
        refine kn_then ?_
        refine kwp_seq ?_
        refine kwp_region ?_
        refine kd (v_mv) ?_
        obtain ⟨v16, hv15, h10⟩ := e_bind h10
        refine kk (n_call Tryd.call89 (w_impl_isWithin hv15) ?_)
        rintro _ _ ⟨rfl, rfl⟩
        refine kd (v_not) ?_
        refine kops_nil ?_
        refine kn_then ?_
        refine kwp_cond rfl (fun hc18 => ?_) (fun hc18 => ?_)
        ·
          replace h10 := e_t h10 hc18
          refine kwp_seq ?_
          refine kwp_region ?_
          refine kd (v_as) ?_
          refine kops_nil ?_
          refine kn_then ?_
          refine kwp_ret ?_
          refine kr_block ?_
          refine kr_then ?_
          refine kr_then ?_
          obtain rfl := e_some h10
          refine k_out ?_ rfl
          rintro rfl
          refine kr_block ?_
          refine kr_then ?_
          refine kr_then ?_
          obtain rfl := e_some g6
          refine r1 [] ?_
          exact ⟨rfl, rfl⟩
        ·
          replace h10 := e_f h10 hc18
          refine kwp_skip ?_
          refine kn_block ?_
          refine kn_then ?_
          refine kwp_region ?_
          refine kd (v_add) ?_
          refine kd (v_mv) ?_
          refine kops_nil ?_
          refine kn_then ?_
          obtain rfl := e_some h10
          exact ⟨_, (), rfl, hd_mk trivial⟩
      ·
        replace h10 := e_f h10 hc13
        refine kwp_exit ?_
        refine ke_then ?_
        obtain rfl := e_some h10
        refine k_out ?_ rfl
        rintro rfl
        refine ke_block ?_
        exact ⟨_, (), rfl, hd_mk trivial⟩
    · intro z19 y20 _ h21
      refine kn_then ?_
      refine kwp_seq ?_
      refine kwp_region ?_
      refine kd (v_as) ?_
      refine kops_nil ?_
      refine kn_then ?_
      refine kwp_ret ?_
      obtain rfl := e_some h21
      refine r1 [] ?_
      exact ⟨rfl, rfl⟩

set_option maxRecDepth 20000 in
theorem w_impl_FlowLoss (m01a : Option Addr) (m01n : Nat) (m01c : Nat) (flow0a : Option Addr) (flow0n : Nat) (flow0c : Nat) {m0 : Mine} {flow0 : List Int} {r : Int} (h : p_impl_FlowLoss m0 flow0 = some r) :
    Triple Tryd.prog 33 [.agg #[.int .i64 m0.p, .slice m01a m01n m01c], .slice flow0a flow0n flow0c] [⟨.slice m01a m01n m01c, 3, m0.aw.map encAirway⟩, ⟨.slice flow0a flow0n flow0c, 1, flow0.map encI⟩] [] (fun v ch => v = .int .i64 r ∧ ch = []) := by
  refine triple_start 42 Tryd.func33 Tryd.ntmps33 rfl rfl (fun w0 => ?_)
  refine k_len (c := m01c) (fun hl1 => ?_)
  subst hl1
  refine k_len (c := flow0c) (fun hl2 => ?_)
  subst hl2
  unfold p_impl_FlowLoss at h
  refine kwp_seq ?_
  refine kwp_region ?_
  refine kk (n_box (e := [.int .i64 m0.p, .slice m01a m0.aw.length m01c]) 2 (fun p2_3 => ?_))
  refine kd (v_as) ?_
  refine kops_nil ?_
  refine kn_then ?_
  refine kwp_seq ?_
  refine kwp_seq ?_
  refine kwp_cutE (inv := [(1, .slice flow0a flow0.length flow0c), (2, .pointer (some p2_3))]) (fun (z : Bool) (y : Unit) => [(16, .bool z)]) (fun (z : Bool) (y : Unit) => [⟨.pointer (some p2_3), 2, [[.int .i64 m0.p, .slice m01a m0.aw.length m01c]]⟩]) (fun _ _ => True) h ?_ ?_
  · intro t7 h5
    refine kwp_region ?_
    refine kd (v_ldB Tryd.isAgg32 Tryd.sizeOf32) ?_
    obtain ⟨v9, hv8, h5⟩ := e_bind h5
    refine kk (n_call Tryd.call20 (w_impl_MineValid m01a m0.aw.length m01c hv8) ?_)
    rintro _ _ ⟨rfl, rfl⟩
    refine kd (v_not) ?_
    refine kd (v_mv) ?_
    refine kops_split 11 rfl (fun hb11 => ?_) (fun hb11 => ?_)
    ·
      replace h5 := e_t h5 hb11
      refine kskip hb11 ?_
      refine kskip hb11 ?_
      refine kskip hb11 ?_
      refine kskip hb11 ?_
      refine kd (v_pt hb11) ?_
      refine kops_nil ?_
      refine kn_then ?_
      obtain rfl := e_some h5
      exact ⟨(), hd_mk trivial⟩
    ·
      replace h5 := e_f h5 hb11
      refine kgd hb11 (v_ldB Tryd.isAgg32 Tryd.sizeOf32) ?_
      refine kgd hb11 (v_mv) ?_
      obtain ⟨v13, hv12, h5⟩ := e_bind h5
      refine kgk hb11 (n_call Tryd.call74 (w_impl_flowFits m01a m0.aw.length m01c flow0a flow0.length flow0c hv12) ?_)
      rintro _ _ ⟨rfl, rfl⟩
      refine kgd hb11 (v_not) ?_
      refine kd (v_pf hb11) ?_
      refine kops_nil ?_
      refine kn_then ?_
      obtain rfl := e_some h5
      exact ⟨(), hd_mk trivial⟩
  · intro x4 y16 _ h17
    refine kn_then ?_
    refine kwp_cond rfl (fun hc18 => ?_) (fun hc18 => ?_)
    ·
      replace h17 := e_t h17 hc18
      refine kwp_seq ?_
      refine kwp_region ?_
      refine kd (v_as) ?_
      refine kops_nil ?_
      refine kn_then ?_
      refine kwp_ret ?_
      refine kr_then ?_
      obtain rfl := e_some h17
      refine r1 [] ?_
      exact ⟨rfl, rfl⟩
    ·
      replace h17 := e_f h17 hc18
      refine kwp_skip ?_
      refine kn_then ?_
      refine kwp_seq ?_
      refine kwp_region ?_
      refine kd (v_as) ?_
      refine kops_nil ?_
      refine kn_then ?_
      refine kwp_seq ?_
      refine kwp_seq ?_
      refine kwp_region ?_
      refine kd (v_fb fa_32_1) ?_
      refine kd (v_ldb Tryd.isAgg30) ?_
      refine kd (v_len Tryd.runUnderlying30) ?_
      refine kd (v_mv) ?_
      refine kops_nil ?_
      refine kn_then ?_
      refine kwp_cutE (inv := []) (fun (z : Int) (y : Unit) => [(5, .int .i64 z)]) (fun (z : Int) (y : Unit) => []) (fun _ _ => True) h17 ?_ ?_
      · intro t22 h20
        refine kwp_block ?_
        refine kwp_loopE (inv := [(1, .slice flow0a flow0.length flow0c), (18, .slice m01a m0.aw.length m01c), (19, .int .i64 ((m0.aw.length : Nat) : Int))]) (fun (z : Int × Int) (y : Unit) => [(5, .int .i64 z.1), (20, .int .i64 z.2)]) (fun (z : Int × Int) (y : Unit) => []) (fun _ _ => True) h20 ⟨(), hd_mk trivial⟩ ?_
        intro z27 y28 b25 _ h26
        obtain ⟨sum23, x24⟩ := z27
        unfold p_impl_FlowLoss_L0 at h26
        refine kwp_seq ?_
        refine kwp_region ?_
        refine kd (v_cmp) ?_
        refine kops_nil ?_
        refine kn_then ?_
        refine kwp_seq ?_
        refine kwp_cond rfl (fun hc29 => ?_) (fun hc29 => ?_)
        ·
          replace h26 := e_t h26 hc29
          refine kwp_skip ?_
          refine kn_then ?_
          refine kwp_seq ?_
          refine kwp_block ?_
          refine kwp_seq ?_
          refine kwp_region ?_
          refine kd (v_mv) ?_
          obtain ⟨j30, ej30, nj30, h26⟩ := e_idx h26
          refine kd (v_ia ej30 nj30 Tryd.runUnderlying30 Tryd.sizeOf36) ?_
          refine kd (v_lda (e := [_, _, _]) nj30 Tryd.isAgg36 Tryd.sizeOf36) ?_
          refine kk (n_alloc (e := [.int .i64 0, .int .i64 0, .int .i64 0]) 3 Tryd.zeroValue36 (fun p7_31 => ?_))
          refine kd (v_as) ?_
          refine kk (s_B (e' := [.int .i64 ((gx m0.aw j30).f), .int .i64 ((gx m0.aw j30).t), .int .i64 ((gx m0.aw j30).w)]) Tryd.sizeOf36 ?_)
          refine kops_nil ?_
          refine kn_then ?_
          obtain ⟨j32, ej32, nj32, h26⟩ := e_idx h26
          obtain ⟨hz33, h26⟩ := e_need h26
          refine kwp_tree (.quiet 0 (.quiet 1 (.quiet 2 (.quiet 3 (.quiet 4 (.quiet 5 (.quiet 6 (.quiet 7 (.quiet 8 (.quiet 9 (.quiet 10 (.quiet 11 (.quiet 12 (.quiet 13 (.quiet 14 (.quiet 15 .stop)))))))))))))))) [] [⟨.pointer (some p7_31), 3, [[.int .i64 ((gx m0.aw j30).f), .int .i64 ((gx m0.aw j30).t), .int .i64 ((gx m0.aw j30).w)]]⟩] drawMixed (by kernel_rfl) nopan (by (repeat (first | exact Sub.refl _ | exact Sub.nil _ | refine Sub.chunk (by repeat (first | exact Pick.here | apply Pick.there | apply Pick.seg)) (by rfl) ?_ | refine Sub.seg (by repeat (first | exact PickSeg.here | exact PickSeg.all | apply PickSeg.there | apply PickSeg.seg)) ?_ | exact Sub.seg0 (by repeat (first | exact PickSeg.here | exact PickSeg.all | apply PickSeg.there | apply PickSeg.seg)) | apply Sub.assoc))) ?_
          refine kt_d rfl rfl rfl (v_mv) ?_
          refine kt_d rfl rfl rfl (v_mv) ?_
          refine kt_d rfl rfl rfl (v_mv) ?_
          refine kt_d rfl rfl rfl (v_ia ej32 nj32 Tryd.runUnderlying46 Tryd.sizeOf3) ?_
          refine kt_d rfl rfl rfl (v_ldf nj32 Tryd.isAgg3) ?_
          refine kt_d rfl rfl rfl (v_mv) ?_
          refine kt_d rfl rfl rfl (v_mv) ?_
          refine kt_d rfl rfl rfl (v_ia ej32 nj32 Tryd.runUnderlying46 Tryd.sizeOf3) ?_
          refine kt_d rfl rfl rfl (v_ldf nj32 Tryd.isAgg3) ?_
          refine kt_d rfl rfl rfl (v_mul) ?_
          refine kt_d rfl rfl rfl (v_fb fa_36_2) ?_
          refine kt_d rfl rfl rfl (v_ldb Tryd.isAgg3) ?_
          refine kt_d rfl rfl rfl (v_quo (h0 := hz33)) ?_
          refine kt_d rfl rfl rfl (v_mul) ?_
          refine kt_d rfl rfl rfl (v_add) ?_
          refine kt_d rfl rfl rfl (v_as) ?_
          refine kt_nil ?_
          refine kn_block ?_
          refine kn_then ?_
          refine kwp_region ?_
          refine kd (v_add) ?_
          refine kd (v_mv) ?_
          refine kops_nil ?_
          refine kn_then ?_
          obtain rfl := e_some h26
          exact ⟨_, (), rfl, hd_mk trivial⟩
        ·
          replace h26 := e_f h26 hc29
          refine kwp_exit ?_
          refine ke_then ?_
          obtain rfl := e_some h26
          refine k_out ?_ rfl
          rintro rfl
          refine ke_block ?_
          exact ⟨(), hd_mk trivial⟩
      · intro sum19 y35 _ h36
        refine kn_then ?_
        refine kwp_seq ?_
        refine kwp_region ?_
        refine kd (v_mv) ?_
        refine kd (v_as) ?_
        refine kops_nil ?_
        refine kn_then ?_
        refine kwp_ret ?_
        obtain rfl := e_some h36
        refine r1 [] ?_
        exact ⟨rfl, rfl⟩

set_option maxRecDepth 20000 in
theorem w_spec_FlowLoss (m01a : Option Addr) (m01n : Nat) (m01c : Nat) (flow0a : Option Addr) (flow0n : Nat) (flow0c : Nat) {m0 : Mine} {flow0 : List Int} {r : Int} (h : p_spec_FlowLoss m0 flow0 = some r) :
    Triple Tryd.prog 34 [.agg #[.int .i64 m0.p, .slice m01a m01n m01c], .slice flow0a flow0n flow0c] [⟨.slice m01a m01n m01c, 3, m0.aw.map encAirway⟩, ⟨.slice flow0a flow0n flow0c, 1, flow0.map encI⟩] [] (fun v ch => v = .int .i64 r ∧ ch = []) := by
  refine triple_start 50 Tryd.func34 Tryd.ntmps34 rfl rfl (fun w0 => ?_)
  refine k_len (c := m01c) (fun hl1 => ?_)
  subst hl1
  refine k_len (c := flow0c) (fun hl2 => ?_)
  subst hl2
  unfold p_spec_FlowLoss at h
  refine kwp_seq ?_
  refine kwp_region ?_
  refine kk (n_box (e := [.int .i64 m0.p, .slice m01a m0.aw.length m01c]) 2 (fun p2_3 => ?_))
  refine kd (v_as) ?_
  refine kops_nil ?_
  refine kn_then ?_
  refine kwp_seq ?_
  refine kwp_seq ?_
  refine kwp_cutE (inv := [(1, .slice flow0a flow0.length flow0c), (2, .pointer (some p2_3))]) (fun (z : Bool) (y : Unit) => [(17, .bool z)]) (fun (z : Bool) (y : Unit) => [⟨.pointer (some p2_3), 2, [[.int .i64 m0.p, .slice m01a m0.aw.length m01c]]⟩]) (fun _ _ => True) h ?_ ?_
  · intro t7 h5
    refine kwp_region ?_
    refine kd (v_ldB Tryd.isAgg32 Tryd.sizeOf32) ?_
    obtain ⟨v9, hv8, h5⟩ := e_bind h5
    refine kk (n_call Tryd.call21 (w_spec_MineValid m01a m0.aw.length m01c hv8) ?_)
    rintro _ _ ⟨rfl, rfl⟩
    refine kd (v_not) ?_
    refine kd (v_mv) ?_
    refine kops_split 10 rfl (fun hb11 => ?_) (fun hb11 => ?_)
    ·
      replace h5 := e_t h5 hb11
      refine kskip hb11 ?_
      refine kskip hb11 ?_
      refine kskip hb11 ?_
      refine kskip hb11 ?_
      refine kskip hb11 ?_
      refine kskip hb11 ?_
      refine kd (v_pt hb11) ?_
      refine kops_nil ?_
      refine kn_then ?_
      obtain rfl := e_some h5
      exact ⟨(), hd_mk trivial⟩
    ·
      replace h5 := e_f h5 hb11
      refine kgd hb11 (v_mv) ?_
      refine kgd hb11 (v_len Tryd.runUnderlying46) ?_
      refine kgd hb11 (v_fb fa_32_1) ?_
      refine kgd hb11 (v_ldb Tryd.isAgg30) ?_
      refine kgd hb11 (v_len Tryd.runUnderlying30) ?_
      refine kgd hb11 (v_cmp) ?_
      refine kd (v_pf hb11) ?_
      refine kops_nil ?_
      refine kn_then ?_
      obtain rfl := e_some h5
      exact ⟨(), hd_mk trivial⟩
  · intro x4 y13 _ h14
    refine kn_then ?_
    refine kwp_cond rfl (fun hc15 => ?_) (fun hc15 => ?_)
    ·
      replace h14 := e_t h14 hc15
      refine kwp_seq ?_
      refine kwp_region ?_
      refine kd (v_as) ?_
      refine kops_nil ?_
      refine kn_then ?_
      refine kwp_ret ?_
      refine kr_then ?_
      obtain rfl := e_some h14
      refine r1 [] ?_
      exact ⟨rfl, rfl⟩
    ·
      replace h14 := e_f h14 hc15
      refine kwp_skip ?_
      refine kn_then ?_
      refine kwp_seq ?_
      refine kwp_region ?_
      refine kd (v_as) ?_
      refine kops_nil ?_
      refine kn_then ?_
      refine kwp_seq ?_
      refine kwp_seq ?_
      refine kwp_region ?_
      refine kd (v_as) ?_
      refine kops_nil ?_
      refine kn_then ?_
      refine kwp_cutO (inv := []) (fun (z : Int) (y : Unit) => [(5, .int .i64 z)]) (fun (z : Int) (y : Unit) => []) (fun _ _ => True) h14 ?_ ?_
      · intro t19 h17 g18
        refine kwp_block ?_
        refine kwp_loopE (inv := [(1, .slice flow0a flow0.length flow0c), (2, .pointer (some p2_3))]) (fun (z : Int × Int) (y : Unit) => [(5, .int .i64 z.1), (6, .int .i64 z.2)]) (fun (z : Int × Int) (y : Unit) => [⟨.pointer (some p2_3), 2, [[.int .i64 m0.p, .slice m01a m0.aw.length m01c]]⟩]) (fun _ _ => True) h17 ⟨(), hd_mk trivial⟩ ?_
        intro z24 y25 b22 _ h23
        obtain ⟨sum20, k21⟩ := z24
        unfold p_spec_FlowLoss_L0 at h23
        refine kwp_seq ?_
        refine kwp_seq ?_
        refine kwp_region ?_
        refine kd (v_mv) ?_
        refine kd (v_mv) ?_
        refine kd (v_len Tryd.runUnderlying46) ?_
        refine kd (v_cmp) ?_
        refine kops_nil ?_
        refine kn_then ?_
        refine kwp_cond rfl (fun hc26 => ?_) (fun hc26 => ?_)
        ·
          replace h23 := e_t h23 hc26
          refine kwp_skip ?_
          refine kn_then ?_
          refine kwp_seq ?_
          refine kwp_block ?_
          refine kwp_seq ?_
          refine kwp_seq ?_
          refine kwp_region ?_
          refine kd (v_mv) ?_
          refine kd (v_mv) ?_
          obtain ⟨j27, ej27, nj27, h23⟩ := e_idx h23
          refine kd (v_ia ej27 nj27 Tryd.runUnderlying46 Tryd.sizeOf3) ?_
          refine kd (v_ldf nj27 Tryd.isAgg3) ?_
          obtain ⟨v29, hv28, h23⟩ := e_bind h23
          refine kk (n_call Tryd.call60 (w_spec_l1In hv28) ?_)
          rintro _ _ ⟨rfl, rfl⟩
          refine kd (v_not) ?_
          refine kops_nil ?_
          refine kn_then ?_
          refine kwp_cond rfl (fun hc31 => ?_) (fun hc31 => ?_)
          ·
            replace h23 := e_t h23 hc31
            refine kwp_seq ?_
            refine kwp_region ?_
            refine kd (v_as) ?_
            refine kops_nil ?_
            refine kn_then ?_
            refine kwp_ret ?_
            refine kr_then ?_
            refine kr_block ?_
            refine kr_then ?_
            refine kr_then ?_
            obtain rfl := e_some h23
            refine k_out ?_ rfl
            rintro rfl
            refine kr_block ?_
            refine kr_then ?_
            refine kr_then ?_
            obtain rfl := e_some g18
            refine r1 [] ?_
            exact ⟨rfl, rfl⟩
          ·
            replace h23 := e_f h23 hc31
            refine kwp_skip ?_
            refine kn_then ?_
            obtain ⟨j32, ej32, nj32, h23⟩ := e_idx h23
            obtain ⟨hz33, h23⟩ := e_need h23
            refine kwp_tree (.quiet 0 (.quiet 1 (.quiet 2 (.quiet 3 (.quiet 4 (.quiet 5 (.quiet 6 (.quiet 7 (.quiet 8 (.quiet 9 (.quiet 10 (.quiet 11 (.quiet 12 (.quiet 13 (.quiet 14 (.quiet 15 (.quiet 16 (.quiet 17 (.quiet 18 (.quiet 19 .stop)))))))))))))))))))) [] [⟨.pointer (some p2_3), 2, [[.int .i64 m0.p, .slice m01a m0.aw.length m01c]]⟩] drawMixed (by kernel_rfl) nopan (by (repeat (first | exact Sub.refl _ | exact Sub.nil _ | refine Sub.chunk (by repeat (first | exact Pick.here | apply Pick.there | apply Pick.seg)) (by rfl) ?_ | refine Sub.seg (by repeat (first | exact PickSeg.here | exact PickSeg.all | apply PickSeg.there | apply PickSeg.seg)) ?_ | exact Sub.seg0 (by repeat (first | exact PickSeg.here | exact PickSeg.all | apply PickSeg.there | apply PickSeg.seg)) | apply Sub.assoc))) ?_
            refine kt_d rfl rfl rfl (v_mv) ?_
            refine kt_d rfl rfl rfl (v_mv) ?_
            refine kt_d rfl rfl rfl (v_mv) ?_
            refine kt_d rfl rfl rfl (v_ia ej27 nj27 Tryd.runUnderlying46 Tryd.sizeOf3) ?_
            refine kt_d rfl rfl rfl (v_ldf nj27 Tryd.isAgg3) ?_
            refine kt_d rfl rfl rfl (v_mv) ?_
            refine kt_d rfl rfl rfl (v_mv) ?_
            refine kt_d rfl rfl rfl (v_ia ej27 nj27 Tryd.runUnderlying46 Tryd.sizeOf3) ?_
            refine kt_d rfl rfl rfl (v_ldf nj27 Tryd.isAgg3) ?_
            refine kt_d rfl rfl rfl (v_mul) ?_
            refine kt_d rfl rfl rfl (v_fb fa_32_1) ?_
            refine kt_d rfl rfl rfl (v_ldb Tryd.isAgg30) ?_
            refine kt_d rfl rfl rfl (v_mv) ?_
            refine kt_d rfl rfl rfl (v_ia ej32 nj32 Tryd.runUnderlying30 Tryd.sizeOf36) ?_
            refine kt_d rfl rfl rfl (v_fa nj32 fa_36_2) ?_
            refine kt_d rfl rfl rfl (v_ldf nj32 Tryd.isAgg3) ?_
            refine kt_d rfl rfl rfl (v_quo (h0 := hz33)) ?_
            refine kt_d rfl rfl rfl (v_mul) ?_
            refine kt_d rfl rfl rfl (v_add) ?_
            refine kt_d rfl rfl rfl (v_as) ?_
            refine kt_nil ?_
            refine kn_block ?_
            refine kn_then ?_
            refine kwp_region ?_
            refine kd (v_mv) ?_
            refine kd (v_add) ?_
            refine kd (v_as) ?_
            refine kops_nil ?_
            refine kn_then ?_
            obtain rfl := e_some h23
            exact ⟨_, (), rfl, hd_mk trivial⟩
        ·
          replace h23 := e_f h23 hc26
          refine kwp_exit ?_
          refine ke_then ?_
          obtain rfl := e_some h23
          refine k_out ?_ rfl
          rintro rfl
          refine ke_block ?_
          exact ⟨_, (), rfl, hd_mk trivial⟩
      · intro sum16 y35 _ h36
        refine kn_then ?_
        refine kwp_seq ?_
        refine kwp_region ?_
        refine kd (v_mv) ?_
        refine kd (v_as) ?_
        refine kops_nil ?_
        refine kn_then ?_
        refine kwp_ret ?_
        obtain rfl := e_some h36
        refine r1 [] ?_
        exact ⟨rfl, rfl⟩

end Go.Proofs.YtpfijnklnljccaaDoor
