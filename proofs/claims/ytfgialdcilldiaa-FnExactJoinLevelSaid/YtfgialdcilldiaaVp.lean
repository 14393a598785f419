/- What the plain programs return, the functions of the program return; no condition. -/
import Derived.Test.YtfgialdcilldiaaQp
import Derived.Test.YtfgialdcilldiaaFa
import Derived.Test.YtfgialdcilldiaaVx
namespace Go.Proofs.Ytfgialdcilldiaa
open Go
set_option linter.unusedVariables false
set_option linter.unusedSimpArgs false

set_option maxRecDepth 20000 in
theorem w_impl_ownParts  {many0 : Int} {r : List Int} (h : p_impl_ownParts many0 = some r) :
    Triple Try.prog 73 [.int .i64 many0] [] [] (fun v ch => ∃ (w0a : Option Addr) (w0c : Nat), v = .slice w0a r.length w0c ∧ ch = [⟨.slice w0a r.length w0c, 1, r.map encI⟩]) := by
  refine triple_start 18 Try.func73 Try.ntmps73 rfl rfl (fun w0 => ?_)
  unfold p_impl_ownParts at h
  refine kwp_seq ?_
  refine kwp_region ?_
  refine kops_nilchunk 1 (by decide) ?_
  refine kd (v_as) ?_
  refine kops_nil ?_
  refine kn_then ?_
  refine kwp_seq ?_
  refine kwp_region ?_
  refine kd (v_mv) ?_
  obtain ⟨j1, ej1, nj1, h⟩ := e_sized h
  refine kk (n_make (enc := encI) 0 ej1 nj1 Try.underlying39 Try.type3 (by decide) (fun a2 => ?_))
  refine kd (v_as) ?_
  refine kops_nil ?_
  refine kn_then ?_
  refine kwp_seq ?_
  refine kwp_seq ?_
  refine kwp_region ?_
  refine kd (v_mv) ?_
  refine kd (v_len Try.runUnderlying39) ?_
  refine kd (v_mv) ?_
  refine kops_nil ?_
  refine kn_then ?_
  refine kwp_cutE (inv := [(3, .slice (some a2) j1 j1)]) (fun (z : List Int) (y : Unit) => []) (fun (z : List Int) (y : Unit) => [⟨.slice (some a2) j1 j1, 1, z.map encI⟩]) (fun _ _ => True) h ?_ ?_
  · intro t6 h4
    refine kwp_block ?_
    refine kwp_loopE (inv := [(3, .slice (some a2) j1 j1), (8, .int .i64 ((j1 : Nat) : Int))]) (fun (z : Int × List Int) (y : Unit) => [(9, .int .i64 z.1)]) (fun (z : Int × List Int) (y : Unit) => [⟨.slice (some a2) j1 j1, 1, z.2.map encI⟩]) (fun _ _ => True) h4 ⟨(), hd_mk trivial⟩ ?_
    intro z11 y12 b9 _ h10
    obtain ⟨x7, l8⟩ := z11
    unfold p_impl_ownParts_L0 at h10
    refine kwp_seq ?_
    refine kwp_region ?_
    refine kd (v_cmp) ?_
    refine kops_nil ?_
    refine kn_then ?_
    refine kwp_seq ?_
    refine kwp_cond rfl (fun hc13 => ?_) (fun hc13 => ?_)
    ·
      replace h10 := e_t h10 hc13
      refine kwp_skip ?_
      refine kn_then ?_
      refine kwp_seq ?_
      refine kwp_block ?_
      refine kwp_seq ?_
      refine kwp_region ?_
      refine kd (v_mv) ?_
      refine kd (v_as) ?_
      refine kops_nil ?_
      refine kn_then ?_
      refine kwp_region ?_
      refine kd (v_mv) ?_
      refine kd (v_mv) ?_
      refine kd (v_mv) ?_
      obtain ⟨j14, ej14, nj14, h10⟩ := e_idx h10
      refine kd (v_ia ej14 nj14 Try.runUnderlying39 Try.sizeOf3) ?_
      refine kk (s_f x7 nj14 Try.sizeOf3 ?_)
      refine kops_nil ?_
      refine kn_block ?_
      refine kn_then ?_
      refine kwp_region ?_
      refine kd (v_add) ?_
      refine kd (v_mv) ?_
      refine kops_nil ?_
      refine kn_then ?_
      obtain rfl := e_some h10
      exact ⟨_, (), rfl, hd_mk trivial⟩
    ·
      replace h10 := e_f h10 hc13
      refine kwp_exit ?_
      refine ke_then ?_
      obtain rfl := e_some h10
      refine k_out ?_ rfl
      rintro rfl
      refine ke_block ?_
      exact ⟨(), hd_mk trivial⟩
  · intro l3 y16 _ h17
    refine kn_then ?_
    refine kwp_seq ?_
    refine kwp_region ?_
    refine kd (v_mv) ?_
    refine kd (v_as) ?_
    refine kops_nil ?_
    refine kn_then ?_
    refine k_len (c := j1) (fun hl18 => ?_)
    subst hl18
    refine kwp_ret ?_
    obtain rfl := e_some h17
    refine r1 [⟨.slice (some a2) (l3.length) (l3.length), 1, l3.map encI⟩] ?_
    exact ⟨some a2, (l3.length), rfl, rfl⟩

set_option maxRecDepth 20000 in
theorem w_impl_joinParts (parts0a : Option Addr) (parts0n : Nat) (parts0c : Nat) {parts0 : List Int} {a0 : Int} {b0 : Int} {r : Bool × List Int} (h : p_impl_joinParts parts0 a0 b0 = some r) :
    Triple Try.prog 74 [.slice parts0a parts0n parts0c, .int .i64 a0, .int .i64 b0] [] [⟨.slice parts0a parts0n parts0c, 1, parts0.map encI⟩] (fun v ch => v = .bool r.1 ∧ ch = [⟨.slice parts0a parts0n parts0c, 1, r.2.map encI⟩]) := by
  refine triple_start 47 Try.func74 Try.ntmps74 rfl rfl (fun w0 => ?_)
  refine k_len (c := parts0c) (fun hl1 => ?_)
  subst hl1
  unfold p_impl_joinParts at h
  refine kwp_seq ?_
  refine kwp_region ?_
  refine kd (v_as) ?_
  refine kops_nil ?_
  refine kn_then ?_
  refine kwp_seq ?_
  obtain ⟨j2, ej2, nj2, h⟩ := e_idx h
  obtain ⟨j3, ej3, nj3, h⟩ := e_idx h
  refine kwp_tree (.quiet 0 (.quiet 1 (.quiet 2 (.quiet 3 (.quiet 4 (.quiet 5 (.quiet 6 (.quiet 7 (.quiet 8 (.quiet 9 (.quiet 10 (.quiet 11 (.quiet 12 (.quiet 13 (.quiet 14 (.quiet 15 (.quiet 16 (.quiet 17 (.quiet 18 (.quiet 19 .stop)))))))))))))))))))) [] [⟨.slice parts0a (parts0.length) parts0c, 1, parts0.map encI⟩] drawMixed (by kernel_rfl) nopan (by (repeat (first | exact Sub.refl _ | exact Sub.nil _ | refine Sub.chunk (by repeat (first | exact Pick.here | apply Pick.there | apply Pick.seg)) (by rfl) ?_ | refine Sub.seg (by repeat (first | exact PickSeg.here | exact PickSeg.all | apply PickSeg.there | apply PickSeg.seg)) ?_ | exact Sub.seg0 (by repeat (first | exact PickSeg.here | exact PickSeg.all | apply PickSeg.there | apply PickSeg.seg)) | apply Sub.assoc))) ?_
  refine kt_d rfl rfl rfl (v_mv) ?_
  refine kt_d rfl rfl rfl (v_mv) ?_
  refine kt_d rfl rfl rfl (v_ia ej2 nj2 Try.runUnderlying39 Try.sizeOf3) ?_
  refine kt_d rfl rfl rfl (v_ldf nj2 Try.isAgg3) ?_
  refine kt_d rfl rfl rfl (v_mv) ?_
  refine kt_d rfl rfl rfl (v_mv) ?_
  refine kt_d rfl rfl rfl (v_ia ej3 nj3 Try.runUnderlying39 Try.sizeOf3) ?_
  refine kt_d rfl rfl rfl (v_ldf nj3 Try.isAgg3) ?_
  refine kt_d rfl rfl rfl (v_min) ?_
  refine kt_d rfl rfl rfl (v_mv) ?_
  refine kt_d rfl rfl rfl (v_mv) ?_
  refine kt_d rfl rfl rfl (v_ia ej2 nj2 Try.runUnderlying39 Try.sizeOf3) ?_
  refine kt_d rfl rfl rfl (v_ldf nj2 Try.isAgg3) ?_
  refine kt_d rfl rfl rfl (v_mv) ?_
  refine kt_d rfl rfl rfl (v_mv) ?_
  refine kt_d rfl rfl rfl (v_ia ej3 nj3 Try.runUnderlying39 Try.sizeOf3) ?_
  refine kt_d rfl rfl rfl (v_ldf nj3 Try.isAgg3) ?_
  refine kt_d rfl rfl rfl (v_max) ?_
  refine kt_d rfl rfl rfl (v_as) ?_
  refine kt_d rfl rfl rfl (v_as) ?_
  refine kt_nil ?_
  refine kn_then ?_
  refine kwp_seq ?_
  refine kwp_seq ?_
  refine kwp_region ?_
  refine kd (v_mv) ?_
  refine kd (v_mv) ?_
  refine kd (v_cmp) ?_
  refine kops_nil ?_
  refine kn_then ?_
  refine kwp_cond rfl (fun hc4 => ?_) (fun hc4 => ?_)
  ·
    replace h := e_t h hc4
    refine kwp_seq ?_
    refine kwp_region ?_
    refine kd (v_as) ?_
    refine kops_nil ?_
    refine kn_then ?_
    refine kwp_ret ?_
    refine kr_then ?_
    obtain rfl := e_some h
    refine r1 [⟨.slice parts0a (parts0.length) parts0c, 1, parts0.map encI⟩] ?_
    exact ⟨rfl, rfl⟩
  ·
    replace h := e_f h hc4
    refine kwp_skip ?_
    refine kn_then ?_
    refine kwp_seq ?_
    refine kwp_seq ?_
    refine kwp_region ?_
    refine kd (v_mv) ?_
    refine kd (v_len Try.runUnderlying39) ?_
    refine kd (v_mv) ?_
    refine kops_nil ?_
    refine kn_then ?_
    refine kwp_cutE (inv := []) (fun (z : List Int) (y : Unit) => []) (fun (z : List Int) (y : Unit) => [⟨.slice parts0a (parts0.length) parts0c, 1, z.map encI⟩]) (fun _ _ => True) h ?_ ?_
    · intro t8 h6
      refine kwp_block ?_
      refine kwp_loopE (inv := [(0, .slice parts0a parts0.length parts0c), (7, .int .i64 (min (gx parts0 j2) (gx parts0 j3))), (8, .int .i64 (max (gx parts0 j2) (gx parts0 j3))), (32, .slice parts0a parts0.length parts0c), (33, .int .i64 ((parts0.length : Nat) : Int))]) (fun (z : Int × List Int) (y : Unit) => [(34, .int .i64 z.1)]) (fun (z : Int × List Int) (y : Unit) => [⟨.slice parts0a (parts0.length) parts0c, 1, z.2.map encI⟩]) (fun _ _ => True) h6 ⟨(), hd_mk trivial⟩ ?_
      intro z13 y14 b11 _ h12
      obtain ⟨x9, l10⟩ := z13
      unfold p_impl_joinParts_L0 at h12
      refine kwp_seq ?_
      refine kwp_region ?_
      refine kd (v_cmp) ?_
      refine kops_nil ?_
      refine kn_then ?_
      refine kwp_seq ?_
      refine kwp_cond rfl (fun hc15 => ?_) (fun hc15 => ?_)
      ·
        replace h12 := e_t h12 hc15
        refine kwp_skip ?_
        refine kn_then ?_
        refine kwp_seq ?_
        refine kwp_block ?_
        refine kwp_seq ?_
        refine kwp_region ?_
        refine kd (v_mv) ?_
        obtain ⟨j16, ej16, nj16, h12⟩ := e_idx h12
        refine kd (v_ia ej16 nj16 Try.runUnderlying39 Try.sizeOf3) ?_
        refine kd (v_ldf nj16 Try.isAgg3) ?_
        refine kd (v_as) ?_
        refine kd (v_as) ?_
        refine kops_nil ?_
        refine kn_then ?_
        refine kwp_seq ?_
        refine kwp_region ?_
        refine kd (v_mv) ?_
        refine kd (v_mv) ?_
        refine kd (v_cmp) ?_
        refine kops_nil ?_
        refine kn_then ?_
        refine kwp_cond rfl (fun hc17 => ?_) (fun hc17 => ?_)
        ·
          replace h12 := e_t h12 hc17
          refine kwp_region ?_
          refine kd (v_mv) ?_
          refine kd (v_mv) ?_
          refine kd (v_mv) ?_
          refine kd (v_ia ej16 nj16 Try.runUnderlying39 Try.sizeOf3) ?_
          refine kk (s_f (min (gx parts0 j2) (gx parts0 j3)) nj16 Try.sizeOf3 ?_)
          refine kops_nil ?_
          refine kn_block ?_
          refine kn_then ?_
          refine kwp_region ?_
          refine kd (v_add) ?_
          refine kd (v_mv) ?_
          refine kops_nil ?_
          refine kn_then ?_
          obtain rfl := e_some h12
          exact ⟨_, (), rfl, hd_mk trivial⟩
        ·
          replace h12 := e_f h12 hc17
          refine kwp_skip ?_
          refine kn_block ?_
          refine kn_then ?_
          refine kwp_region ?_
          refine kd (v_add) ?_
          refine kd (v_mv) ?_
          refine kops_nil ?_
          refine kn_then ?_
          obtain rfl := e_some h12
          exact ⟨_, (), rfl, hd_mk trivial⟩
      ·
        replace h12 := e_f h12 hc15
        refine kwp_exit ?_
        refine ke_then ?_
        obtain rfl := e_some h12
        refine k_out ?_ rfl
        rintro rfl
        refine ke_block ?_
        exact ⟨(), hd_mk trivial⟩
    · intro l5 y19 _ h20
      refine kn_then ?_
      refine kwp_seq ?_
      refine kwp_region ?_
      refine kd (v_as) ?_
      refine kops_nil ?_
      refine kn_then ?_
      refine kwp_ret ?_
      obtain rfl := e_some h20
      refine r1 [⟨.slice parts0a (parts0.length) parts0c, 1, l5.map encI⟩] ?_
      exact ⟨rfl, rfl⟩

set_option maxRecDepth 20000 in
theorem w_spec_l1All  {n0 : Int} {r : List Int} (h : p_spec_l1All n0 = some r) :
    Triple Try.prog 87 [.int .i64 n0] [] [] (fun v ch => ∃ (w0a : Option Addr) (w0c : Nat), v = .slice w0a r.length w0c ∧ ch = [⟨.slice w0a r.length w0c, 1, r.map encI⟩]) := by
  refine triple_start 16 Try.func87 Try.ntmps87 rfl rfl (fun w0 => ?_)
  unfold p_spec_l1All at h
  refine kwp_seq ?_
  refine kwp_region ?_
  refine kops_nilchunk 1 (by decide) ?_
  refine kd (v_as) ?_
  refine kops_nil ?_
  refine kn_then ?_
  refine kwp_seq ?_
  refine kwp_region ?_
  refine kk (n_lit (enc := encI) [] ([] : List Int) Try.runUnderlying39 Try.sizeOf3 Try.zeroValue3 (fun a1 => ?_))
  refine kd (v_as) ?_
  refine kops_nil ?_
  refine kn_then ?_
  refine kwp_seq ?_
  refine kwp_seq ?_
  refine kwp_region ?_
  refine kd (v_as) ?_
  refine kops_nil ?_
  refine kn_then ?_
  refine kwp_cutE (inv := []) (fun (z : List Int) (y : Option Addr × Nat × Nat) => [(3, .slice y.1 y.2.1 y.2.2)]) (fun (z : List Int) (y : Option Addr × Nat × Nat) => [⟨.slice y.1 y.2.1 y.2.2, 1, z.map encI⟩]) (fun _ _ => True) h ?_ ?_
  · intro t5 h3
    refine kwp_block ?_
    refine kwp_loopE (inv := [(0, .int .i64 n0)]) (fun (z : List Int × Int) (y : Option Addr × Nat × Nat) => [(3, .slice y.1 y.2.1 y.2.2), (4, .int .i64 z.2)]) (fun (z : List Int × Int) (y : Option Addr × Nat × Nat) => [⟨.slice y.1 y.2.1 y.2.2, 1, z.1.map encI⟩]) (fun _ _ => True) h3 ⟨(some a1, 0, 0), hd_mk trivial⟩ ?_
    intro z10 y11 b8 _ h9
    obtain ⟨out6, k7⟩ := z10
    obtain ⟨out6a, out6n, out6c⟩ := y11
    refine k_len (c := out6c) (fun hl12 => ?_)
    subst hl12
    unfold p_spec_l1All_L0 at h9
    refine kwp_seq ?_
    refine kwp_seq ?_
    refine kwp_region ?_
    refine kd (v_mv) ?_
    refine kd (v_mv) ?_
    refine kd (v_cmp) ?_
    refine kops_nil ?_
    refine kn_then ?_
    refine kwp_cond rfl (fun hc13 => ?_) (fun hc13 => ?_)
    ·
      replace h9 := e_t h9 hc13
      refine kwp_skip ?_
      refine kn_then ?_
      refine kwp_seq ?_
      refine kwp_block ?_
      refine kwp_region ?_
      refine kd (v_mv) ?_
      refine kd (v_mv) ?_
      refine kk (n_lit (enc := encI) [_] ([k7] : List Int) Try.runUnderlying39 Try.sizeOf3 Try.zeroValue3 (fun a14 => ?_))
      obtain ⟨hz15, h9⟩ := e_need h9
      refine kk (n_app (enc := encI) ok_encI hz15 Try.underlying39 Try.type3 (by decide) (fun a16 c17 => ?_))
      refine kd (v_as) ?_
      refine kops_nil ?_
      refine kn_block ?_
      refine kn_then ?_
      refine kwp_region ?_
      refine kd (v_mv) ?_
      refine kd (v_add) ?_
      refine kd (v_as) ?_
      refine kops_nil ?_
      refine kn_then ?_
      obtain rfl := e_some h9
      exact ⟨_, (a16, (out6 ++ ([k7] : List Int)).length, c17), rfl, hd_mk trivial⟩
    ·
      replace h9 := e_f h9 hc13
      refine kwp_exit ?_
      refine ke_then ?_
      obtain rfl := e_some h9
      refine k_out ?_ rfl
      rintro rfl
      refine ke_block ?_
      exact ⟨(out6a, out6.length, out6c), hd_mk trivial⟩
  · intro out2 y19 _ h20
    obtain ⟨out2a, out2n, out2c⟩ := y19
    refine k_len (c := out2c) (fun hl21 => ?_)
    subst hl21
    refine kwp_seq ?_
    refine kwp_region ?_
    refine kd (v_mv) ?_
    refine kd (v_as) ?_
    refine kops_nil ?_
    refine kn_then ?_
    refine kwp_ret ?_
    obtain rfl := e_some h20
    refine r1 [⟨.slice out2a (out2.length) out2c, 1, out2.map encI⟩] ?_
    exact ⟨out2a, out2c, rfl, rfl⟩

set_option maxRecDepth 20000 in
set_option maxHeartbeats 2000000 in
theorem w_spec_l4Parts (c00a : Option Addr) (c00n : Nat) (c00c : Nat) (c01a : Option Addr) (c01n : Nat) (c01c : Nat) (c02a : Option Addr) (c02n : Nat) (c02c : Nat) (use0a : Option Addr) (use0n : Nat) (use0c : Nat) {c0 : Cave} {use0 : List Int} {r : List Int} (h : p_spec_l4Parts c0 use0 = some r) :
    Triple Try.prog 78 [.agg #[.slice c00a c00n c00c, .slice c01a c01n c01c, .slice c02a c02n c02c], .slice use0a use0n use0c] [⟨.slice c00a c00n c00c, 1, c0.fl.map encI⟩, ⟨.slice c01a c01n c01c, 1, c0.ar.map encI⟩, ⟨.slice c02a c02n c02c, 3, c0.si.map encSill⟩, ⟨.slice use0a use0n use0c, 1, use0.map encI⟩] [] (fun v ch => ∃ (w0a : Option Addr) (w0c : Nat), v = .slice w0a r.length w0c ∧ ch = [⟨.slice w0a r.length w0c, 1, r.map encI⟩]) := by
  refine triple_start 65 Try.func78 Try.ntmps78 rfl rfl (fun w0 => ?_)
  refine k_len (c := c00c) (fun hl1 => ?_)
  subst hl1
  refine k_len (c := c01c) (fun hl2 => ?_)
  subst hl2
  refine k_len (c := c02c) (fun hl3 => ?_)
  subst hl3
  refine k_len (c := use0c) (fun hl4 => ?_)
  subst hl4
  unfold p_spec_l4Parts at h
  refine kwp_seq ?_
  refine kwp_region ?_
  refine kk (n_box (e := [.slice c00a c0.fl.length c00c, .slice c01a c0.ar.length c01c, .slice c02a c0.si.length c02c]) 3 (fun p2_5 => ?_))
  refine kops_nilchunk 1 (by decide) ?_
  refine kd (v_as) ?_
  refine kops_nil ?_
  refine kn_then ?_
  refine kwp_seq ?_
  refine kwp_region ?_
  refine kd (v_fb fa_47_0) ?_
  refine kd (v_ldb Try.isAgg39) ?_
  refine kd (v_len Try.runUnderlying39) ?_
  obtain ⟨v7, hv6, h⟩ := e_bind h
  refine kk (n_call Try.call87 (w_spec_l1All hv6) ?_)
  rintro _ _ ⟨q8a, q8c, rfl, rfl⟩
  refine kd (v_as) ?_
  refine kops_nil ?_
  refine kn_then ?_
  refine kwp_seq ?_
  refine kwp_seq ?_
  refine kwp_region ?_
  refine kd (v_as) ?_
  refine kops_nil ?_
  refine kn_then ?_
  refine kwp_cutE (inv := [(5, .slice q8a v7.length q8c)]) (fun (z : List Int) (y : Unit) => []) (fun (z : List Int) (y : Unit) => [⟨.slice q8a v7.length q8c, 1, z.map encI⟩]) (fun _ _ => True) h ?_ ?_
  · intro t12 h10
    refine kwp_block ?_
    refine kwp_loopE (inv := [(1, .slice use0a use0.length use0c), (2, .pointer (some p2_5)), (5, .slice q8a v7.length q8c)]) (fun (z : Int × List Int) (y : Unit) => [(6, .int .i64 z.1)]) (fun (z : Int × List Int) (y : Unit) => [⟨.slice q8a v7.length q8c, 1, z.2.map encI⟩, ⟨.pointer (some p2_5), 3, [[.slice c00a c0.fl.length c00c, .slice c01a c0.ar.length c01c, .slice c02a c0.si.length c02c]]⟩]) (fun _ _ => True) h10 ⟨(), hd_mk trivial⟩ ?_
    intro z17 y18 b15 _ h16
    obtain ⟨n13, l14⟩ := z17
    unfold p_spec_l4Parts_L0 at h16
    refine kwp_seq ?_
    refine kwp_seq ?_
    refine kwp_region ?_
    refine kd (v_mv) ?_
    refine kd (v_mv) ?_
    refine kd (v_len Try.runUnderlying39) ?_
    refine kd (v_cmp) ?_
    refine kops_nil ?_
    refine kn_then ?_
    refine kwp_cond rfl (fun hc19 => ?_) (fun hc19 => ?_)
    ·
      replace h16 := e_t h16 hc19
      refine kwp_skip ?_
      refine kn_then ?_
      refine kwp_seq ?_
      refine kwp_block ?_
      refine kwp_seq ?_
      obtain ⟨j20, ej20, nj20, h16⟩ := e_idx h16
      obtain ⟨j21, ej21, nj21, h16⟩ := e_idx h16
      obtain ⟨j22, ej22, nj22, h16⟩ := e_idx h16
      refine kwp_tree (.quiet 0 (.quiet 1 (.quiet 2 (.quiet 3 (.quiet 4 (.quiet 5 (.quiet 6 (.quiet 7 (.quiet 8 (.quiet 9 (.quiet 10 (.quiet 11 (.quiet 12 .stop))))))))))))) [] [⟨.pointer (some p2_5), 3, [[.slice c00a c0.fl.length c00c, .slice c01a c0.ar.length c01c, .slice c02a c0.si.length c02c]]⟩, ⟨.slice q8a v7.length q8c, 1, l14.map encI⟩] drawMixed (by kernel_rfl) nopan (by (repeat (first | exact Sub.refl _ | exact Sub.nil _ | refine Sub.chunk (by repeat (first | exact Pick.here | apply Pick.there | apply Pick.seg)) (by rfl) ?_ | refine Sub.seg (by repeat (first | exact PickSeg.here | exact PickSeg.all | apply PickSeg.there | apply PickSeg.seg)) ?_ | exact Sub.seg0 (by repeat (first | exact PickSeg.here | exact PickSeg.all | apply PickSeg.there | apply PickSeg.seg)) | apply Sub.assoc))) ?_
      refine kt_d rfl rfl rfl (v_mv) ?_
      refine kt_d rfl rfl rfl (v_fb fa_47_2) ?_
      refine kt_d rfl rfl rfl (v_ldb Try.isAgg45) ?_
      refine kt_d rfl rfl rfl (v_mv) ?_
      refine kt_d rfl rfl rfl (v_mv) ?_
      refine kt_d rfl rfl rfl (v_ia ej20 nj20 Try.runUnderlying39 Try.sizeOf3) ?_
      refine kt_d rfl rfl rfl (v_ldf nj20 Try.isAgg3) ?_
      refine kt_d rfl rfl rfl (v_ia ej21 nj21 Try.runUnderlying45 Try.sizeOf83) ?_
      refine kt_d rfl rfl rfl (v_fa nj21 fa_83_0) ?_
      refine kt_d rfl rfl rfl (v_ldf nj21 Try.isAgg3) ?_
      refine kt_d rfl rfl rfl (v_ia ej22 nj22 Try.runUnderlying39 Try.sizeOf3) ?_
      refine kt_d rfl rfl rfl (v_ldf nj22 Try.isAgg3) ?_
      refine kt_d rfl rfl rfl (v_as) ?_
      refine kt_nil ?_
      refine kn_then ?_
      refine kwp_seq ?_
      obtain ⟨j23, ej23, nj23, h16⟩ := e_idx h16
      refine kwp_tree (.quiet 0 (.quiet 1 (.quiet 2 (.quiet 3 (.quiet 4 (.quiet 5 (.quiet 6 (.quiet 7 (.quiet 8 (.quiet 9 (.quiet 10 (.quiet 11 (.quiet 12 .stop))))))))))))) [] [⟨.pointer (some p2_5), 3, [[.slice c00a c0.fl.length c00c, .slice c01a c0.ar.length c01c, .slice c02a c0.si.length c02c]]⟩, ⟨.slice q8a v7.length q8c, 1, l14.map encI⟩] drawMixed (by kernel_rfl) nopan (by (repeat (first | exact Sub.refl _ | exact Sub.nil _ | refine Sub.chunk (by repeat (first | exact Pick.here | apply Pick.there | apply Pick.seg)) (by rfl) ?_ | refine Sub.seg (by repeat (first | exact PickSeg.here | exact PickSeg.all | apply PickSeg.there | apply PickSeg.seg)) ?_ | exact Sub.seg0 (by repeat (first | exact PickSeg.here | exact PickSeg.all | apply PickSeg.there | apply PickSeg.seg)) | apply Sub.assoc))) ?_
      refine kt_d rfl rfl rfl (v_mv) ?_
      refine kt_d rfl rfl rfl (v_fb fa_47_2) ?_
      refine kt_d rfl rfl rfl (v_ldb Try.isAgg45) ?_
      refine kt_d rfl rfl rfl (v_mv) ?_
      refine kt_d rfl rfl rfl (v_mv) ?_
      refine kt_d rfl rfl rfl (v_ia ej20 nj20 Try.runUnderlying39 Try.sizeOf3) ?_
      refine kt_d rfl rfl rfl (v_ldf nj20 Try.isAgg3) ?_
      refine kt_d rfl rfl rfl (v_ia ej21 nj21 Try.runUnderlying45 Try.sizeOf83) ?_
      refine kt_d rfl rfl rfl (v_fa nj21 fa_83_1) ?_
      refine kt_d rfl rfl rfl (v_ldf nj21 Try.isAgg3) ?_
      refine kt_d rfl rfl rfl (v_ia ej23 nj23 Try.runUnderlying39 Try.sizeOf3) ?_
      refine kt_d rfl rfl rfl (v_ldf nj23 Try.isAgg3) ?_
      refine kt_d rfl rfl rfl (v_as) ?_
      refine kt_nil ?_
      refine kn_then ?_
      refine kwp_seq ?_
      refine kwp_region ?_
      refine kd (v_as) ?_
      refine kops_nil ?_
      refine kn_then ?_
      refine kwp_cutE (inv := [(1, .slice use0a use0.length use0c), (2, .pointer (some p2_5)), (5, .slice q8a v7.length q8c), (6, .int .i64 n13)]) (fun (z : List Int) (y : Unit) => []) (fun (z : List Int) (y : Unit) => [⟨.slice q8a v7.length q8c, 1, z.map encI⟩, ⟨.pointer (some p2_5), 3, [[.slice c00a c0.fl.length c00c, .slice c01a c0.ar.length c01c, .slice c02a c0.si.length c02c]]⟩]) (fun _ _ => True) h16 ?_ ?_
      · intro t27 h25
        refine kwp_block ?_
        refine kwp_loopE (inv := [(1, .slice use0a use0.length use0c), (2, .pointer (some p2_5)), (5, .slice q8a v7.length q8c), (6, .int .i64 n13), (7, .int .i64 (gx l14 j22)), (8, .int .i64 (gx l14 j23))]) (fun (z : Int × List Int) (y : Unit) => [(9, .int .i64 z.1)]) (fun (z : Int × List Int) (y : Unit) => [⟨.slice q8a v7.length q8c, 1, z.2.map encI⟩, ⟨.pointer (some p2_5), 3, [[.slice c00a c0.fl.length c00c, .slice c01a c0.ar.length c01c, .slice c02a c0.si.length c02c]]⟩]) (fun _ _ => True) h25 ⟨(), hd_mk trivial⟩ ?_
        intro z32 y33 b30 _ h31
        obtain ⟨k28, l29⟩ := z32
        unfold p_spec_l4Parts_L1 at h31
        refine kwp_seq ?_
        refine kwp_seq ?_
        refine kwp_region ?_
        refine kd (v_mv) ?_
        refine kd (v_mv) ?_
        refine kd (v_len Try.runUnderlying39) ?_
        refine kd (v_cmp) ?_
        refine kops_nil ?_
        refine kn_then ?_
        refine kwp_cond rfl (fun hc34 => ?_) (fun hc34 => ?_)
        ·
          replace h31 := e_t h31 hc34
          refine kwp_skip ?_
          refine kn_then ?_
          refine kwp_seq ?_
          refine kwp_block ?_
          refine kwp_seq ?_
          refine kwp_region ?_
          refine kd (v_mv) ?_
          refine kd (v_mv) ?_
          obtain ⟨j35, ej35, nj35, h31⟩ := e_idx h31
          refine kd (v_ia ej35 nj35 Try.runUnderlying39 Try.sizeOf3) ?_
          refine kd (v_ldf nj35 Try.isAgg3) ?_
          refine kd (v_mv) ?_
          refine kd (v_mv) ?_
          refine kd (v_max) ?_
          refine kd (v_cmp) ?_
          refine kops_nil ?_
          refine kn_then ?_
          refine kwp_cond rfl (fun hc36 => ?_) (fun hc36 => ?_)
          ·
            replace h31 := e_t h31 hc36
            refine kwp_region ?_
            refine kd (v_mv) ?_
            refine kd (v_mv) ?_
            refine kd (v_mv) ?_
            refine kd (v_mv) ?_
            refine kd (v_min) ?_
            refine kd (v_ia ej35 nj35 Try.runUnderlying39 Try.sizeOf3) ?_
            refine kk (s_f (min (gx l14 j22) (gx l14 j23)) nj35 Try.sizeOf3 ?_)
            refine kops_nil ?_
            refine kn_block ?_
            refine kn_then ?_
            refine kwp_region ?_
            refine kd (v_mv) ?_
            refine kd (v_add) ?_
            refine kd (v_as) ?_
            refine kops_nil ?_
            refine kn_then ?_
            obtain rfl := e_some h31
            exact ⟨_, (), rfl, hd_mk trivial⟩
          ·
            replace h31 := e_f h31 hc36
            refine kwp_skip ?_
            refine kn_block ?_
            refine kn_then ?_
            refine kwp_region ?_
            refine kd (v_mv) ?_
            refine kd (v_add) ?_
            refine kd (v_as) ?_
            refine kops_nil ?_
            refine kn_then ?_
            obtain rfl := e_some h31
            exact ⟨_, (), rfl, hd_mk trivial⟩
        ·
          replace h31 := e_f h31 hc34
          refine kwp_exit ?_
          refine ke_then ?_
          obtain rfl := e_some h31
          refine k_out ?_ rfl
          rintro rfl
          refine ke_block ?_
          exact ⟨(), hd_mk trivial⟩
      · intro l24 y38 _ h39
        refine kn_block ?_
        refine kn_then ?_
        refine kwp_region ?_
        refine kd (v_mv) ?_
        refine kd (v_add) ?_
        refine kd (v_as) ?_
        refine kops_nil ?_
        refine kn_then ?_
        obtain rfl := e_some h39
        exact ⟨_, (), rfl, hd_mk trivial⟩
    ·
      replace h16 := e_f h16 hc19
      refine kwp_exit ?_
      refine ke_then ?_
      obtain rfl := e_some h16
      refine k_out ?_ rfl
      rintro rfl
      refine ke_block ?_
      exact ⟨(), hd_mk trivial⟩
  · intro l9 y41 _ h42
    refine kn_then ?_
    refine kwp_seq ?_
    refine kwp_region ?_
    refine kd (v_mv) ?_
    refine kd (v_as) ?_
    refine kops_nil ?_
    refine kn_then ?_
    refine k_len (c := q8c) (fun hl43 => ?_)
    refine kwp_ret ?_
    obtain rfl := e_some h42
    refine r1 [⟨.slice q8a v7.length q8c, 1, l9.map encI⟩] ?_
    exact ⟨q8a, q8c, by first | rfl | (rw [← hl43] <;> rfl) | ((try dsimp only); rw [← hl43] <;> rfl) | (simp; done), by first | rfl | (rw [← hl43] <;> rfl) | ((try dsimp only); rw [← hl43] <;> rfl) | (simp; done)⟩

end Go.Proofs.Ytfgialdcilldiaa
