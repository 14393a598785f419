/- What the plain programs return, the functions of the program return; no condition. -/
import Derived.Test.YtpfijnklnljccaaDoorZQ
import Derived.Test.YtpfijnklnljccaaDoorZFa
namespace Go.Proofs.YtpfijnklnljccaaDoor
open Go
set_option linter.unusedVariables false
set_option linter.unusedSimpArgs false

set_option maxRecDepth 20000 in
theorem w_spec_l20Open (code0a : Option Addr) (code0n : Nat) (code0c : Nat) {code0 : List UInt8} {r : Rd} (h : p_spec_l20Open code0 = some r) :
    Triple Tryd.prog 57 [.slice code0a code0n code0c] [⟨.slice code0a code0n code0c, 1, code0.map encB⟩] [] (fun v ch => ∃ (w0p : Addr) (w0a : Option Addr) (w0c : Nat), v = .pointer (some w0p) ∧ View ⟨.slice code0a code0n code0c, 1, code0.map encB⟩ ⟨.slice w0a r.b.length w0c, 1, r.b.map encB⟩ ∧ ch = [⟨.pointer (some w0p), 2, [[.slice w0a r.b.length w0c, .int .i64 r.p]]⟩]) := by
  refine triple_start 11 Tryd.func57 Tryd.ntmps57 rfl rfl (fun w0 => ?_)
  refine k_len (c := code0c) (fun hl1 => ?_)
  subst hl1
  unfold p_spec_l20Open at h
  refine kwp_seq ?_
  refine kwp_region ?_
  refine kd (v_as) ?_
  refine kops_nil ?_
  refine kn_then ?_
  refine kwp_seq ?_
  refine kwp_seq ?_
  refine kwp_region ?_
  refine kd (v_mv) ?_
  refine kd (v_len Tryd.runUnderlying22) ?_
  refine kd (v_cmp) ?_
  refine kops_nil ?_
  refine kn_then ?_
  refine kwp_cond rfl (fun hc2 => ?_) (fun hc2 => ?_)
  ·
    replace h := e_t h hc2
    obtain ⟨j3, j4, ej3, ej4, oj3, oj4, h⟩ := e_cut h
    refine kwp_view (view_cut (c := code0c) oj3 oj4) ?_
    refine kwp_region ?_
    refine kd (v_mv) ?_
    refine kd (v_sl (l := j3) (h := j4) oj3 oj4 Tryd.runUnderlying22 Tryd.sizeOf5 (hlo := by show _ = 0; omega) (hhi := by exact ⟨_, _, rfl, ej4⟩)) ?_
    refine kd (v_as) ?_
    refine kops_nil ?_
    refine kn_then ?_
    refine kwp_seq ?_
    refine kwp_region ?_
    refine kd (v_mv) ?_
    refine kd (v_bd [(0, _)] [_, .int .i64 0] Tryd.zeroValue100 Tryd.runUnderlying100 pl_100) ?_
    refine kk (n_box (e := [.slice (subA code0a code0c 1 j3) (j4 - j3) (code0c - j3), .int .i64 0]) 2 (fun p10_5 => ?_))
    refine kd (v_as) ?_
    refine kops_nil ?_
    refine kn_then ?_
    have hl6 : ((code0.drop j3).take (j4 - j3)).length = (j4 - j3) := by simp; omega
    refine kwp_ret ?_
    obtain rfl := e_some h
    refine r1 [⟨.pointer (some p10_5), 2, [[.slice (subA code0a code0c 1 j3) (j4 - j3) (code0c - j3), .int .i64 0]]⟩] ?_
    exact ⟨p10_5, (subA code0a code0c 1 j3), (code0c - j3), by first | rfl | ((try dsimp only); rw [hl6]), (by first | exact (view_cut oj3 oj4) | ((try dsimp only); rw [hl6]; exact (view_cut oj3 oj4))), by first | rfl | ((try dsimp only); rw [hl6])⟩
  ·
    replace h := e_f h hc2
    refine kwp_skip ?_
    refine kn_then ?_
    refine kwp_seq ?_
    refine kwp_region ?_
    refine kd (v_mv) ?_
    refine kd (v_bd [(0, _)] [_, .int .i64 0] Tryd.zeroValue100 Tryd.runUnderlying100 pl_100) ?_
    refine kk (n_box (e := [.slice code0a code0.length code0c, .int .i64 0]) 2 (fun p10_7 => ?_))
    refine kd (v_as) ?_
    refine kops_nil ?_
    refine kn_then ?_
    refine kwp_ret ?_
    obtain rfl := e_some h
    refine r1 [⟨.pointer (some p10_7), 2, [[.slice code0a code0.length code0c, .int .i64 0]]⟩] ?_
    exact ⟨p10_7, code0a, code0c, rfl, (by first | exact (View.refl _)), rfl⟩

set_option maxRecDepth 20000 in
set_option maxHeartbeats 2000000 in
theorem w_spec_l20Rd_pick (r0p : Addr) (r00a : Option Addr) (r00n : Nat) (r00c : Nat) {r0 : Rd} {n0 : Int} {r : Int × Int} (h : p_spec_l20Rd_pick r0 n0 = some r) :
    Triple Tryd.prog 58 [.pointer (some r0p), .int .i64 n0] [⟨.slice r00a r00n r00c, 1, r0.b.map encB⟩] [⟨.pointer (some r0p), 2, [[.slice r00a r00n r00c, .int .i64 r0.p]]⟩] (fun v ch => v = .int .i64 r.1 ∧ ch = [⟨.pointer (some r0p), 2, [[.slice r00a r00n r00c, .int .i64 r.2]]⟩]) := by
  refine triple_start 99 Tryd.func58 Tryd.ntmps58 rfl rfl (fun w0 => ?_)
  refine k_len (c := r00c) (fun hl1 => ?_)
  subst hl1
  unfold p_spec_l20Rd_pick at h
  refine kwp_seq ?_
  refine kwp_region ?_
  refine kd (v_as) ?_
  refine kops_nil ?_
  refine kn_then ?_
  refine kwp_seq ?_
  refine kwp_region ?_
  refine kd (v_mv) ?_
  refine kd (v_mv) ?_
  refine kd (v_nc) ?_
  refine kd (v_fb fa_100_1) ?_
  refine kd (v_ldb Tryd.isAgg3) ?_
  refine kd (v_add) ?_
  refine kd (v_nc) ?_
  refine kd (v_fb fa_100_1) ?_
  refine kk (s_b (e' := [.slice r00a r0.b.length r00c, .int .i64 (w64 (r0.p + 1))]) Tryd.sizeOf3 ?_)
  refine kops_nil ?_
  refine kn_then ?_
  refine kwp_seq ?_
  refine kwp_seq ?_
  refine kwp_cutE (inv := [(0, .pointer (some r0p)), (1, .int .i64 n0)]) (fun (z : Bool) (y : Unit) => [(24, .bool z)]) (fun (z : Bool) (y : Unit) => [⟨.pointer (some r0p), 2, [[.slice r00a r0.b.length r00c, .int .i64 (w64 (r0.p + 1))]]⟩]) (fun _ _ => True) h ?_ ?_
  · intro t5 h3
    refine kwp_region ?_
    refine kd (v_mv) ?_
    refine kd (v_cmp) ?_
    refine kd (v_mv) ?_
    refine kops_split 17 rfl (fun hb6 => ?_) (fun hb6 => ?_)
    ·
      replace h3 := e_t h3 hb6
      refine kskip hb6 ?_
      refine kskip hb6 ?_
      refine kskip hb6 ?_
      refine kskip hb6 ?_
      refine kskip hb6 ?_
      refine kskip hb6 ?_
      refine kd (v_pt hb6) ?_
      refine kops_nil ?_
      refine kn_then ?_
      obtain rfl := e_some h3
      exact ⟨(), hd_mk trivial⟩
    ·
      replace h3 := e_f h3 hb6
      refine kgd hb6 (v_mv) ?_
      refine kgd hb6 (v_nc) ?_
      refine kgd hb6 (v_fb fa_100_0) ?_
      refine kgd hb6 (v_ldb Tryd.isAgg22) ?_
      refine kgd hb6 (v_len Tryd.runUnderlying22) ?_
      refine kgd hb6 (v_cmp) ?_
      refine kd (v_pf hb6) ?_
      refine kops_nil ?_
      refine kn_then ?_
      obtain rfl := e_some h3
      exact ⟨(), hd_mk trivial⟩
  · intro x2 y8 _ h9
    refine kn_then ?_
    refine kwp_cond rfl (fun hc10 => ?_) (fun hc10 => ?_)
    ·
      replace h9 := e_t h9 hc10
      refine kwp_seq ?_
      refine kwp_region ?_
      refine kd (v_as) ?_
      refine kops_nil ?_
      refine kn_then ?_
      refine kwp_ret ?_
      refine kr_then ?_
      obtain rfl := e_some h9
      refine r1 [⟨.pointer (some r0p), 2, [[.slice r00a r0.b.length r00c, .int .i64 (w64 (r0.p + 1))]]⟩] ?_
      exact ⟨rfl, rfl⟩
    ·
      replace h9 := e_f h9 hc10
      refine kwp_skip ?_
      refine kn_then ?_
      refine kwp_seq ?_
      refine kwp_region ?_
      refine kd (v_mv) ?_
      refine kd (v_nc) ?_
      refine kd (v_fb fa_100_1) ?_
      refine kd (v_ldb Tryd.isAgg3) ?_
      refine kd (v_sub) ?_
      refine kd (v_as) ?_
      refine kops_nil ?_
      refine kn_then ?_
      refine kwp_seq ?_
      refine kwp_seq ?_
      refine kwp_region ?_
      refine kd (v_mv) ?_
      refine kd (v_mv) ?_
      refine kd (v_nc) ?_
      refine kd (v_fb fa_100_0) ?_
      refine kd (v_ldb Tryd.isAgg22) ?_
      refine kd (v_len Tryd.runUnderlying22) ?_
      refine kd (v_cmp) ?_
      refine kops_nil ?_
      refine kn_then ?_
      refine kwp_cond rfl (fun hc11 => ?_) (fun hc11 => ?_)
      ·
        replace h9 := e_t h9 hc11
        refine kwp_seq ?_
        refine kwp_region ?_
        refine kd (v_mv) ?_
        refine kd (v_nc) ?_
        refine kd (v_fb fa_100_0) ?_
        refine kd (v_ldb Tryd.isAgg22) ?_
        refine kd (v_mv) ?_
        obtain ⟨j12, ej12, nj12, h9⟩ := e_idx h9
        refine kd (v_ia ej12 nj12 Tryd.runUnderlying22 Tryd.sizeOf5) ?_
        refine kd (v_ldf nj12 Tryd.isAgg5) ?_
        refine kd (v_cv Tryd.runUnderlying5 Tryd.runUnderlying3) ?_
        refine kd (v_mv) ?_
        obtain ⟨hz13, h9⟩ := e_need h9
        refine kd (v_rem (h0 := hz13)) ?_
        refine kd (v_as) ?_
        refine kops_nil ?_
        refine kn_then ?_
        refine kwp_ret ?_
        refine kr_then ?_
        obtain rfl := e_some h9
        refine r1 [⟨.pointer (some r0p), 2, [[.slice r00a r0.b.length r00c, .int .i64 (w64 (r0.p + 1))]]⟩] ?_
        exact ⟨rfl, rfl⟩
      ·
        replace h9 := e_f h9 hc11
        refine kwp_skip ?_
        refine kn_then ?_
        refine kwp_seq ?_
        obtain ⟨hz14, h9⟩ := e_need h9
        obtain ⟨j15, ej15, nj15, h9⟩ := e_idx h9
        obtain ⟨hz16, h9⟩ := e_need h9
        obtain ⟨j17, ej17, nj17, h9⟩ := e_idx h9
        obtain ⟨hz18, h9⟩ := e_need h9
        refine kwp_tree (.quiet 0 (.quiet 1 (.quiet 2 (.quiet 3 (.quiet 4 (.quiet 5 (.quiet 6 (.quiet 7 (.quiet 8 (.quiet 9 (.quiet 10 (.quiet 11 (.quiet 12 (.quiet 13 (.quiet 14 (.quiet 15 (.quiet 16 (.quiet 17 (.quiet 18 (.quiet 19 (.quiet 20 (.quiet 21 (.quiet 22 (.quiet 23 (.quiet 24 (.quiet 25 (.quiet 26 (.quiet 27 (.quiet 28 (.quiet 29 (.quiet 30 (.quiet 31 (.quiet 32 (.quiet 33 (.quiet 34 (.quiet 35 (.quiet 36 (.quiet 37 (.quiet 38 (.quiet 39 (.quiet 40 (.quiet 41 (.quiet 42 (.quiet 43 (.quiet 44 (.quiet 45 .stop)))))))))))))))))))))))))))))))))))))))))))))) [] [⟨.pointer (some r0p), 2, [[.slice r00a r0.b.length r00c, .int .i64 (w64 (r0.p + 1))]]⟩] drawMixed (by kernel_rfl) nopan (by (repeat (first | exact Sub.refl _ | exact Sub.nil _ | refine Sub.chunk (by repeat (first | exact Pick.here | apply Pick.there | apply Pick.seg)) (by rfl) ?_ | refine Sub.seg (by repeat (first | exact PickSeg.here | exact PickSeg.all | apply PickSeg.there | apply PickSeg.seg)) ?_ | exact Sub.seg0 (by repeat (first | exact PickSeg.here | exact PickSeg.all | apply PickSeg.there | apply PickSeg.seg)) | apply Sub.assoc))) ?_
        refine kt_d rfl rfl rfl (v_mv) ?_
        refine kt_d rfl rfl rfl (v_nc) ?_
        refine kt_d rfl rfl rfl (v_fb fa_100_0) ?_
        refine kt_d rfl rfl rfl (v_ldb Tryd.isAgg22) ?_
        refine kt_d rfl rfl rfl (v_mv) ?_
        refine kt_d rfl rfl rfl (v_mv) ?_
        refine kt_d rfl rfl rfl (v_nc) ?_
        refine kt_d rfl rfl rfl (v_fb fa_100_0) ?_
        refine kt_d rfl rfl rfl (v_ldb Tryd.isAgg22) ?_
        refine kt_d rfl rfl rfl (v_len Tryd.runUnderlying22) ?_
        refine kt_d rfl rfl rfl (v_rem (h0 := hz14)) ?_
        refine kt_d rfl rfl rfl (v_ia ej15 nj15 Tryd.runUnderlying22 Tryd.sizeOf5) ?_
        refine kt_d rfl rfl rfl (v_ldf nj15 Tryd.isAgg5) ?_
        refine kt_d rfl rfl rfl (v_cv Tryd.runUnderlying5 Tryd.runUnderlying3) ?_
        refine kt_d rfl rfl rfl (v_mul) ?_
        refine kt_d rfl rfl rfl (v_mv) ?_
        refine kt_d rfl rfl rfl (v_nc) ?_
        refine kt_d rfl rfl rfl (v_fb fa_100_0) ?_
        refine kt_d rfl rfl rfl (v_ldb Tryd.isAgg22) ?_
        refine kt_d rfl rfl rfl (v_mv) ?_
        refine kt_d rfl rfl rfl (v_mul) ?_
        refine kt_d rfl rfl rfl (v_add) ?_
        refine kt_d rfl rfl rfl (v_mv) ?_
        refine kt_d rfl rfl rfl (v_nc) ?_
        refine kt_d rfl rfl rfl (v_fb fa_100_0) ?_
        refine kt_d rfl rfl rfl (v_ldb Tryd.isAgg22) ?_
        refine kt_d rfl rfl rfl (v_len Tryd.runUnderlying22) ?_
        refine kt_d rfl rfl rfl (v_rem (h0 := hz16)) ?_
        refine kt_d rfl rfl rfl (v_ia ej17 nj17 Tryd.runUnderlying22 Tryd.sizeOf5) ?_
        refine kt_d rfl rfl rfl (v_ldf nj17 Tryd.isAgg5) ?_
        refine kt_d rfl rfl rfl (v_cv Tryd.runUnderlying5 Tryd.runUnderlying3) ?_
        refine kt_d rfl rfl rfl (v_mul) ?_
        refine kt_d rfl rfl rfl (v_add) ?_
        refine kt_d rfl rfl rfl (v_mv) ?_
        refine kt_d rfl rfl rfl (v_mul) ?_
        refine kt_d rfl rfl rfl (v_add) ?_
        refine kt_d rfl rfl rfl (v_mv) ?_
        refine kt_d rfl rfl rfl (v_mv) ?_
        refine kt_d rfl rfl rfl (v_nc) ?_
        refine kt_d rfl rfl rfl (v_fb fa_100_0) ?_
        refine kt_d rfl rfl rfl (v_ldb Tryd.isAgg22) ?_
        refine kt_d rfl rfl rfl (v_len Tryd.runUnderlying22) ?_
        refine kt_d rfl rfl rfl (v_quo (h0 := hz18)) ?_
        refine kt_d rfl rfl rfl (v_mul) ?_
        refine kt_d rfl rfl rfl (v_add) ?_
        refine kt_d rfl rfl rfl (v_as) ?_
        refine kt_nil ?_
        refine kn_then ?_
        refine kwp_seq ?_
        refine kwp_region ?_
        refine kd (v_mv) ?_
        refine kd (v_mv) ?_
        refine kd (v_quo) ?_
        refine kd (v_bit) ?_
        refine kd (v_as) ?_
        refine kops_nil ?_
        refine kn_then ?_
        refine kwp_seq ?_
        refine kwp_region ?_
        refine kd (v_mv) ?_
        refine kd (v_mv) ?_
        obtain ⟨hz19, h9⟩ := e_need h9
        refine kd (v_rem (h0 := hz19)) ?_
        refine kd (v_as) ?_
        refine kops_nil ?_
        refine kn_then ?_
        refine kwp_ret ?_
        obtain rfl := e_some h9
        refine r1 [⟨.pointer (some r0p), 2, [[.slice r00a r0.b.length r00c, .int .i64 (w64 (r0.p + 1))]]⟩] ?_
        exact ⟨rfl, rfl⟩

set_option maxRecDepth 20000 in
theorem w_spec_l20Rd_odd (r0p : Addr) (r00a : Option Addr) (r00n : Nat) (r00c : Nat) {r0 : Rd} {n0 : Int} {r : Bool × Int} (h : p_spec_l20Rd_odd r0 n0 = some r) :
    Triple Tryd.prog 73 [.pointer (some r0p), .int .i64 n0] [⟨.slice r00a r00n r00c, 1, r0.b.map encB⟩] [⟨.pointer (some r0p), 2, [[.slice r00a r00n r00c, .int .i64 r0.p]]⟩] (fun v ch => v = .bool r.1 ∧ ch = [⟨.pointer (some r0p), 2, [[.slice r00a r00n r00c, .int .i64 r.2]]⟩]) := by
  refine triple_start 15 Tryd.func73 Tryd.ntmps73 rfl rfl (fun w0 => ?_)
  refine k_len (c := r00c) (fun hl1 => ?_)
  subst hl1
  unfold p_spec_l20Rd_odd at h
  refine kwp_seq ?_
  refine kwp_region ?_
  refine kd (v_as) ?_
  refine kops_nil ?_
  refine kn_then ?_
  refine kwp_seq ?_
  refine kwp_region ?_
  refine kd (v_mv) ?_
  refine kd (v_cmp) ?_
  refine kd (v_mv) ?_
  refine kops_split 7 rfl (fun hb2 => ?_) (fun hb2 => ?_)
  ·
    replace h := e_t h hb2
    refine kgd hb2 (v_mv) ?_
    refine kgd hb2 (v_mv) ?_
    obtain ⟨⟨v4, v5⟩, hv3, h⟩ := e_bind h
    refine kgk hb2 (n_call Tryd.call58 (w_spec_l20Rd_pick r0p r00a r0.b.length r00c hv3) ?_)
    rintro _ _ ⟨rfl, rfl⟩
    refine kgd hb2 (v_mv) ?_
    refine kgd hb2 (v_sub) ?_
    refine kgd hb2 (v_cmp) ?_
    refine kd (v_pt hb2) ?_
    refine kd (v_as) ?_
    refine kops_nil ?_
    refine kn_then ?_
    refine kwp_ret ?_
    obtain rfl := e_some h
    refine r1 [⟨.pointer (some r0p), 2, [[.slice r00a r0.b.length r00c, .int .i64 v5]]⟩] ?_
    exact ⟨rfl, rfl⟩
  ·
    replace h := e_f h hb2
    refine kskip hb2 ?_
    refine kskip hb2 ?_
    refine kskip hb2 ?_
    refine kskip hb2 ?_
    refine kskip hb2 ?_
    refine kskip hb2 ?_
    refine kd (v_pf hb2) ?_
    refine kd (v_as) ?_
    refine kops_nil ?_
    refine kn_then ?_
    refine kwp_ret ?_
    obtain rfl := e_some h
    refine r1 [⟨.pointer (some r0p), 2, [[.slice r00a r0.b.length r00c, .int .i64 r0.p]]⟩] ?_
    exact ⟨rfl, rfl⟩

end Go.Proofs.YtpfijnklnljccaaDoor
