/- What the plain programs return, the functions of the program return; no condition. -/
import Derived.Test.YtnibfmofkamjoaaDoorZQ
import Derived.Test.YtnibfmofkamjoaaDoorZFa
namespace Go.Proofs.YtnibfmofkamjoaaDoor
open Go
set_option linter.unusedVariables false
set_option linter.unusedSimpArgs false

set_option maxRecDepth 20000 in
theorem w_impl_isIndex  {number0 : Int} {many0 : Int} {r : Bool} (h : p_impl_isIndex number0 many0 = some r) :
    Triple Tryd.prog 75 [.int .i64 number0, .int .i64 many0] [] [] (fun v ch => v = .bool r ∧ ch = []) := by
  refine triple_start 12 Tryd.func75 Tryd.ntmps75 rfl rfl (fun w0 => ?_)
  unfold p_impl_isIndex at h
  refine kwp_seq ?_
  refine kwp_region ?_
  refine kd (v_as) ?_
  refine kops_nil ?_
  refine kn_then ?_
  refine kwp_seq ?_
  refine kwp_region ?_
  refine kd (v_mv) ?_
  refine kd (v_cmp) ?_
  refine kd (v_mv) ?_
  refine kops_split 7 rfl (fun hb1 => ?_) (fun hb1 => ?_)
  ·
    replace h := e_t h hb1
    refine kgd hb1 (v_mv) ?_
    refine kgd hb1 (v_mv) ?_
    refine kgd hb1 (v_cmp) ?_
    refine kd (v_pt hb1) ?_
    refine kd (v_as) ?_
    refine kops_nil ?_
    refine kn_then ?_
    refine kwp_ret ?_
    obtain rfl := e_some h
    refine r1 [] ?_
    exact ⟨rfl, rfl⟩
  ·
    replace h := e_f h hb1
    refine kskip hb1 ?_
    refine kskip hb1 ?_
    refine kskip hb1 ?_
    refine kd (v_pf hb1) ?_
    refine kd (v_as) ?_
    refine kops_nil ?_
    refine kn_then ?_
    refine kwp_ret ?_
    obtain rfl := e_some h
    refine r1 [] ?_
    exact ⟨rfl, rfl⟩

set_option maxRecDepth 20000 in
theorem w_impl_isWithin  {number0 : Int} {limit0 : Int} {r : Bool} (h : p_impl_isWithin number0 limit0 = some r) :
    Triple Tryd.prog 77 [.int .i64 number0, .int .i64 limit0] [] [] (fun v ch => v = .bool r ∧ ch = []) := by
  refine triple_start 14 Tryd.func77 Tryd.ntmps77 rfl rfl (fun w0 => ?_)
  unfold p_impl_isWithin at h
  refine kwp_seq ?_
  refine kwp_region ?_
  refine kd (v_as) ?_
  refine kops_nil ?_
  refine kn_then ?_
  refine kwp_seq ?_
  refine kwp_region ?_
  refine kd (v_mv) ?_
  refine kd (v_mv) ?_
  refine kd (v_neg) ?_
  refine kd (v_cmp) ?_
  refine kd (v_mv) ?_
  refine kops_split 9 rfl (fun hb1 => ?_) (fun hb1 => ?_)
  ·
    replace h := e_t h hb1
    refine kgd hb1 (v_mv) ?_
    refine kgd hb1 (v_mv) ?_
    refine kgd hb1 (v_cmp) ?_
    refine kd (v_pt hb1) ?_
    refine kd (v_as) ?_
    refine kops_nil ?_
    refine kn_then ?_
    refine kwp_ret ?_
    obtain rfl := e_some h
    refine r1 [] ?_
    exact ⟨rfl, rfl⟩
  ·
    replace h := e_f h hb1
    refine kskip hb1 ?_
    refine kskip hb1 ?_
    refine kskip hb1 ?_
    refine kd (v_pf hb1) ?_
    refine kd (v_as) ?_
    refine kops_nil ?_
    refine kn_then ?_
    refine kwp_ret ?_
    obtain rfl := e_some h
    refine r1 [] ?_
    exact ⟨rfl, rfl⟩

set_option maxRecDepth 20000 in
theorem w_spec_l1In  {n0 : Int} {low0 : Int} {high0 : Int} {r : Bool} (h : p_spec_l1In n0 low0 high0 = some r) :
    Triple Tryd.prog 88 [.int .i64 n0, .int .i64 low0, .int .i64 high0] [] [] (fun v ch => v = .bool r ∧ ch = []) := by
  refine triple_start 15 Tryd.func88 Tryd.ntmps88 rfl rfl (fun w0 => ?_)
  unfold p_spec_l1In at h
  refine kwp_seq ?_
  refine kwp_region ?_
  refine kd (v_as) ?_
  refine kops_nil ?_
  refine kn_then ?_
  refine kwp_seq ?_
  refine kwp_region ?_
  refine kd (v_mv) ?_
  refine kd (v_mv) ?_
  refine kd (v_cmp) ?_
  refine kd (v_mv) ?_
  refine kops_split 10 rfl (fun hb1 => ?_) (fun hb1 => ?_)
  ·
    replace h := e_t h hb1
    refine kgd hb1 (v_mv) ?_
    refine kgd hb1 (v_mv) ?_
    refine kgd hb1 (v_cmp) ?_
    refine kd (v_pt hb1) ?_
    refine kd (v_as) ?_
    refine kops_nil ?_
    refine kn_then ?_
    refine kwp_ret ?_
    obtain rfl := e_some h
    refine r1 [] ?_
    exact ⟨rfl, rfl⟩
  ·
    replace h := e_f h hb1
    refine kskip hb1 ?_
    refine kskip hb1 ?_
    refine kskip hb1 ?_
    refine kd (v_pf hb1) ?_
    refine kd (v_as) ?_
    refine kops_nil ?_
    refine kn_then ?_
    refine kwp_ret ?_
    obtain rfl := e_some h
    refine r1 [] ?_
    exact ⟨rfl, rfl⟩

set_option maxRecDepth 20000 in
theorem w_impl_stepFits  {number0 : Int} {r : Bool} (h : p_impl_stepFits number0 = some r) :
    Triple Tryd.prog 120 [.int .i64 number0] [] [] (fun v ch => v = .bool r ∧ ch = []) := by
  refine triple_start 5 Tryd.func120 Tryd.ntmps120 rfl rfl (fun w0 => ?_)
  unfold p_impl_stepFits at h
  refine kwp_seq ?_
  refine kwp_region ?_
  refine kd (v_as) ?_
  refine kops_nil ?_
  refine kn_then ?_
  refine kwp_seq ?_
  refine kwp_region ?_
  refine kd (v_mv) ?_
  obtain ⟨v2, hv1, h⟩ := e_bind h
  refine kk (n_call Tryd.call77 (w_impl_isWithin hv1) ?_)
  rintro _ _ ⟨rfl, rfl⟩
  refine kd (v_as) ?_
  refine kops_nil ?_
  refine kn_then ?_
  refine kwp_ret ?_
  obtain rfl := e_some h
  refine r1 [] ?_
  exact ⟨rfl, rfl⟩

set_option maxRecDepth 20000 in
set_option maxHeartbeats 2000000 in
theorem w_impl_LegValid  {stations0 : Int} {g0 : Leg} {r : Bool} (h : p_impl_LegValid stations0 g0 = some r) :
    Triple Tryd.prog 81 [.int .i64 stations0, .agg #[.int .i64 g0.f, .int .i64 g0.t, .int .i64 g0.e, .int .i64 g0.n, .int .i64 g0.u]] [] [] (fun v ch => v = .bool r ∧ ch = []) := by
  refine triple_start 43 Tryd.func81 Tryd.ntmps81 rfl rfl (fun w0 => ?_)
  unfold p_impl_LegValid at h
  refine kwp_seq ?_
  refine kwp_region ?_
  refine kk (n_box (e := [.int .i64 g0.f, .int .i64 g0.t, .int .i64 g0.e, .int .i64 g0.n, .int .i64 g0.u]) 5 (fun p3_1 => ?_))
  refine kd (v_as) ?_
  refine kops_nil ?_
  refine kn_then ?_
  refine kwp_seq ?_
  refine kwp_seq ?_
  refine kwp_cutE (inv := [(0, .int .i64 stations0), (3, .pointer (some p3_1))]) (fun (z : Bool) (y : Unit) => [(10, .bool z)]) (fun (z : Bool) (y : Unit) => [⟨.pointer (some p3_1), 5, [[.int .i64 g0.f, .int .i64 g0.t, .int .i64 g0.e, .int .i64 g0.n, .int .i64 g0.u]]⟩]) (fun _ _ => True) h ?_ ?_
  · intro t5 h3
    refine kwp_region ?_
    refine kd (v_mv) ?_
    refine kd (v_cmp) ?_
    refine kd (v_mv) ?_
    refine kops_split 7 rfl (fun hb6 => ?_) (fun hb6 => ?_)
    ·
      replace h3 := e_t h3 hb6
      refine kskip hb6 ?_
      refine kskip hb6 ?_
      refine kd (v_pt hb6) ?_
      refine kops_nil ?_
      refine kn_then ?_
      obtain rfl := e_some h3
      exact ⟨(), hd_mk trivial⟩
    ·
      replace h3 := e_f h3 hb6
      refine kgd hb6 (v_mv) ?_
      refine kgd hb6 (v_cmp) ?_
      refine kd (v_pf hb6) ?_
      refine kops_nil ?_
      refine kn_then ?_
      obtain rfl := e_some h3
      exact ⟨(), hd_mk trivial⟩
  · intro x2 y8 _ h9
    refine kn_then ?_
    refine kwp_cond rfl (fun hc10 => ?_) (fun hc10 => ?_)
    ·
      replace h9 := e_t h9 hc10
      refine kwp_seq ?_
      refine kwp_region ?_
      refine kd (v_as) ?_
      refine kops_nil ?_
      refine kn_then ?_
      refine kwp_ret ?_
      refine kr_then ?_
      obtain rfl := e_some h9
      refine r1 [] ?_
      exact ⟨rfl, rfl⟩
    ·
      replace h9 := e_f h9 hc10
      refine kwp_skip ?_
      refine kn_then ?_
      refine kwp_seq ?_
      refine kwp_seq ?_
      refine kwp_cutE (inv := [(3, .pointer (some p3_1))]) (fun (z : Bool) (y : Unit) => [(29, .bool z)]) (fun (z : Bool) (y : Unit) => [⟨.pointer (some p3_1), 5, [[.int .i64 g0.f, .int .i64 g0.t, .int .i64 g0.e, .int .i64 g0.n, .int .i64 g0.u]]⟩]) (fun _ _ => True) h9 ?_ ?_
      · intro t14 h12
        refine kwp_region ?_
        refine kd (v_fb fa_48_0) ?_
        refine kd (v_ldb Tryd.isAgg3) ?_
        refine kd (v_mv) ?_
        obtain ⟨v16, hv15, h12⟩ := e_bind h12
        refine kk (n_call Tryd.call75 (w_impl_isIndex hv15) ?_)
        rintro _ _ ⟨rfl, rfl⟩
        refine kd (v_not) ?_
        refine kd (v_mv) ?_
        refine kops_split 16 rfl (fun hb18 => ?_) (fun hb18 => ?_)
        ·
          replace h12 := e_t h12 hb18
          refine kskip hb18 ?_
          refine kskip hb18 ?_
          refine kskip hb18 ?_
          refine kskip hb18 ?_
          refine kskip hb18 ?_
          refine kd (v_pt hb18) ?_
          refine kd (v_mv) ?_
          refine kskip rfl ?_
          refine kskip rfl ?_
          refine kskip rfl ?_
          refine kskip rfl ?_
          refine kskip rfl ?_
          refine kd (v_pt rfl) ?_
          refine kops_nil ?_
          refine kn_then ?_
          obtain rfl := e_some h12
          exact ⟨(), hd_mk trivial⟩
        ·
          replace h12 := e_f h12 hb18
          refine kgd hb18 (v_fb fa_48_1) ?_
          refine kgd hb18 (v_ldb Tryd.isAgg3) ?_
          refine kgd hb18 (v_mv) ?_
          obtain ⟨v20, hv19, h12⟩ := e_bind h12
          refine kgk hb18 (n_call Tryd.call75 (w_impl_isIndex hv19) ?_)
          rintro _ _ ⟨rfl, rfl⟩
          refine kgd hb18 (v_not) ?_
          refine kd (v_pf hb18) ?_
          refine kd (v_mv) ?_
          refine kops_split 23 rfl (fun hb22 => ?_) (fun hb22 => ?_)
          ·
            replace h12 := e_t h12 hb22
            refine kskip hb22 ?_
            refine kskip hb22 ?_
            refine kskip hb22 ?_
            refine kskip hb22 ?_
            refine kskip hb22 ?_
            refine kd (v_pt hb22) ?_
            refine kops_nil ?_
            refine kn_then ?_
            obtain rfl := e_some h12
            exact ⟨(), hd_mk trivial⟩
          ·
            replace h12 := e_f h12 hb22
            refine kgd hb22 (v_fb fa_48_0) ?_
            refine kgd hb22 (v_ldb Tryd.isAgg3) ?_
            refine kgd hb22 (v_fb fa_48_1) ?_
            refine kgd hb22 (v_ldb Tryd.isAgg3) ?_
            refine kgd hb22 (v_cmp) ?_
            refine kd (v_pf hb22) ?_
            refine kops_nil ?_
            refine kn_then ?_
            obtain rfl := e_some h12
            exact ⟨(), hd_mk trivial⟩
      · intro x11 y24 _ h25
        refine kn_then ?_
        refine kwp_cond rfl (fun hc26 => ?_) (fun hc26 => ?_)
        ·
          replace h25 := e_t h25 hc26
          refine kwp_seq ?_
          refine kwp_region ?_
          refine kd (v_as) ?_
          refine kops_nil ?_
          refine kn_then ?_
          refine kwp_ret ?_
          refine kr_then ?_
          obtain rfl := e_some h25
          refine r1 [] ?_
          exact ⟨rfl, rfl⟩
        ·
          replace h25 := e_f h25 hc26
          refine kwp_skip ?_
          refine kn_then ?_
          refine kwp_seq ?_
          refine kwp_region ?_
          refine kd (v_fb fa_48_2) ?_
          refine kd (v_ldb Tryd.isAgg3) ?_
          obtain ⟨v28, hv27, h25⟩ := e_bind h25
          refine kk (n_call Tryd.call120 (w_impl_stepFits hv27) ?_)
          rintro _ _ ⟨rfl, rfl⟩
          refine kd (v_mv) ?_
          refine kops_split 33 rfl (fun hb30 => ?_) (fun hb30 => ?_)
          ·
            replace h25 := e_t h25 hb30
            refine kgd hb30 (v_fb fa_48_3) ?_
            refine kgd hb30 (v_ldb Tryd.isAgg3) ?_
            obtain ⟨v32, hv31, h25⟩ := e_bind h25
            refine kgk hb30 (n_call Tryd.call120 (w_impl_stepFits hv31) ?_)
            rintro _ _ ⟨rfl, rfl⟩
            refine kd (v_pt hb30) ?_
            refine kd (v_mv) ?_
            refine kops_split 38 rfl (fun hb34 => ?_) (fun hb34 => ?_)
            ·
              replace h25 := e_t h25 hb34
              refine kgd hb34 (v_fb fa_48_4) ?_
              refine kgd hb34 (v_ldb Tryd.isAgg3) ?_
              obtain ⟨v36, hv35, h25⟩ := e_bind h25
              refine kgk hb34 (n_call Tryd.call120 (w_impl_stepFits hv35) ?_)
              rintro _ _ ⟨rfl, rfl⟩
              refine kd (v_pt hb34) ?_
              refine kd (v_as) ?_
              refine kops_nil ?_
              refine kn_then ?_
              refine kwp_ret ?_
              obtain rfl := e_some h25
              refine r1 [] ?_
              exact ⟨rfl, rfl⟩
            ·
              replace h25 := e_f h25 hb34
              refine kskip hb34 ?_
              refine kskip hb34 ?_
              refine kskip hb34 ?_
              refine kd (v_pf hb34) ?_
              refine kd (v_as) ?_
              refine kops_nil ?_
              refine kn_then ?_
              refine kwp_ret ?_
              obtain rfl := e_some h25
              refine r1 [] ?_
              exact ⟨rfl, rfl⟩
          ·
            replace h25 := e_f h25 hb30
            refine kskip hb30 ?_
            refine kskip hb30 ?_
            refine kskip hb30 ?_
            refine kd (v_pf hb30) ?_
            refine kd (v_mv) ?_
            refine kskip rfl ?_
            refine kskip rfl ?_
            refine kskip rfl ?_
            refine kd (v_pf rfl) ?_
            refine kd (v_as) ?_
            refine kops_nil ?_
            refine kn_then ?_
            refine kwp_ret ?_
            obtain rfl := e_some h25
            refine r1 [] ?_
            exact ⟨rfl, rfl⟩

set_option maxRecDepth 20000 in
theorem w_impl_legWay  {g0 : Leg} {r : Way} (h : p_impl_legWay g0 = some r) :
    Triple Tryd.prog 76 [.agg #[.int .i64 g0.f, .int .i64 g0.t, .int .i64 g0.e, .int .i64 g0.n, .int .i64 g0.u]] [] [] (fun v ch => v = .agg #[.int .i64 r.e, .int .i64 r.n, .int .i64 r.u] ∧ ch = []) := by
  refine triple_start 10 Tryd.func76 Tryd.ntmps76 rfl rfl (fun w0 => ?_)
  unfold p_impl_legWay at h
  refine kwp_seq ?_
  refine kwp_region ?_
  refine kk (n_box (e := [.int .i64 g0.f, .int .i64 g0.t, .int .i64 g0.e, .int .i64 g0.n, .int .i64 g0.u]) 5 (fun p1_1 => ?_))
  refine kk (n_alloc (e := [.int .i64 0, .int .i64 0, .int .i64 0]) 3 Tryd.zeroValue37 (fun p2_2 => ?_))
  refine kops_nil ?_
  refine kn_then ?_
  refine kwp_seq ?_
  refine kwp_region ?_
  refine kd (v_fb fa_48_2) ?_
  refine kd (v_ldb Tryd.isAgg3) ?_
  refine kd (v_fb fa_48_3) ?_
  refine kd (v_ldb Tryd.isAgg3) ?_
  refine kd (v_fb fa_48_4) ?_
  refine kd (v_ldb Tryd.isAgg3) ?_
  refine kd (v_bd [(0, _), (1, _), (2, _)] [_, _, _] Tryd.zeroValue37 Tryd.runUnderlying37 pl_37) ?_
  refine kk (s_B (e' := [.int .i64 g0.e, .int .i64 g0.n, .int .i64 g0.u]) Tryd.sizeOf37 ?_)
  refine kops_nil ?_
  refine kn_then ?_
  refine kwp_ret ?_
  obtain rfl := e_some h
  refine rc Tryd.isAgg37 Tryd.sizeOf37 [] ?_
  exact ⟨rfl, rfl⟩

set_option maxRecDepth 20000 in
theorem w_spec_LegBack  {g0 : Leg} {r : Leg} (h : p_spec_LegBack g0 = some r) :
    Triple Tryd.prog 86 [.agg #[.int .i64 g0.f, .int .i64 g0.t, .int .i64 g0.e, .int .i64 g0.n, .int .i64 g0.u]] [] [] (fun v ch => v = .agg #[.int .i64 r.f, .int .i64 r.t, .int .i64 r.e, .int .i64 r.n, .int .i64 r.u] ∧ ch = []) := by
  refine triple_start 17 Tryd.func86 Tryd.ntmps86 rfl rfl (fun w0 => ?_)
  unfold p_spec_LegBack at h
  refine kwp_seq ?_
  refine kwp_region ?_
  refine kk (n_box (e := [.int .i64 g0.f, .int .i64 g0.t, .int .i64 g0.e, .int .i64 g0.n, .int .i64 g0.u]) 5 (fun p1_1 => ?_))
  refine kk (n_alloc (e := [.int .i64 0, .int .i64 0, .int .i64 0, .int .i64 0, .int .i64 0]) 5 Tryd.zeroValue48 (fun p2_2 => ?_))
  refine kops_nil ?_
  refine kn_then ?_
  refine kwp_seq ?_
  refine kwp_region ?_
  refine kd (v_fb fa_48_1) ?_
  refine kd (v_ldb Tryd.isAgg3) ?_
  refine kd (v_fb fa_48_0) ?_
  refine kd (v_ldb Tryd.isAgg3) ?_
  refine kd (v_fb fa_48_2) ?_
  refine kd (v_ldb Tryd.isAgg3) ?_
  refine kd (v_neg) ?_
  refine kd (v_fb fa_48_3) ?_
  refine kd (v_ldb Tryd.isAgg3) ?_
  refine kd (v_neg) ?_
  refine kd (v_fb fa_48_4) ?_
  refine kd (v_ldb Tryd.isAgg3) ?_
  refine kd (v_neg) ?_
  refine kd (v_bd [(0, _), (1, _), (2, _), (3, _), (4, _)] [_, _, _, _, _] Tryd.zeroValue48 Tryd.runUnderlying48 pl_48) ?_
  refine kk (s_B (e' := [.int .i64 g0.t, .int .i64 g0.f, .int .i64 (w64 (-g0.e)), .int .i64 (w64 (-g0.n)), .int .i64 (w64 (-g0.u))]) Tryd.sizeOf48 ?_)
  refine kops_nil ?_
  refine kn_then ?_
  refine kwp_ret ?_
  obtain rfl := e_some h
  refine rc Tryd.isAgg48 Tryd.sizeOf48 [] ?_
  exact ⟨rfl, rfl⟩

set_option maxRecDepth 20000 in
theorem w_spec_WayAdd  {a0 : Way} {b0 : Way} {r : Way} (h : p_spec_WayAdd a0 b0 = some r) :
    Triple Tryd.prog 78 [.agg #[.int .i64 a0.e, .int .i64 a0.n, .int .i64 a0.u], .agg #[.int .i64 b0.e, .int .i64 b0.n, .int .i64 b0.u]] [] [] (fun v ch => v = .agg #[.int .i64 r.e, .int .i64 r.n, .int .i64 r.u] ∧ ch = []) := by
  refine triple_start 21 Tryd.func78 Tryd.ntmps78 rfl rfl (fun w0 => ?_)
  unfold p_spec_WayAdd at h
  refine kwp_seq ?_
  refine kwp_region ?_
  refine kk (n_box (e := [.int .i64 a0.e, .int .i64 a0.n, .int .i64 a0.u]) 3 (fun p2_1 => ?_))
  refine kk (n_box (e := [.int .i64 b0.e, .int .i64 b0.n, .int .i64 b0.u]) 3 (fun p3_2 => ?_))
  refine kk (n_alloc (e := [.int .i64 0, .int .i64 0, .int .i64 0]) 3 Tryd.zeroValue37 (fun p4_3 => ?_))
  refine kops_nil ?_
  refine kn_then ?_
  refine kwp_seq ?_
  refine kwp_region ?_
  refine kd (v_fb fa_37_0) ?_
  refine kd (v_ldb Tryd.isAgg3) ?_
  refine kd (v_fb fa_37_0) ?_
  refine kd (v_ldb Tryd.isAgg3) ?_
  refine kd (v_add) ?_
  refine kd (v_fb fa_37_1) ?_
  refine kd (v_ldb Tryd.isAgg3) ?_
  refine kd (v_fb fa_37_1) ?_
  refine kd (v_ldb Tryd.isAgg3) ?_
  refine kd (v_add) ?_
  refine kd (v_fb fa_37_2) ?_
  refine kd (v_ldb Tryd.isAgg3) ?_
  refine kd (v_fb fa_37_2) ?_
  refine kd (v_ldb Tryd.isAgg3) ?_
  refine kd (v_add) ?_
  refine kd (v_bd [(0, _), (1, _), (2, _)] [_, _, _] Tryd.zeroValue37 Tryd.runUnderlying37 pl_37) ?_
  refine kk (s_B (e' := [.int .i64 (w64 (a0.e + b0.e)), .int .i64 (w64 (a0.n + b0.n)), .int .i64 (w64 (a0.u + b0.u))]) Tryd.sizeOf37 ?_)
  refine kops_nil ?_
  refine kn_then ?_
  refine kwp_ret ?_
  obtain rfl := e_some h
  refine rc Tryd.isAgg37 Tryd.sizeOf37 [] ?_
  exact ⟨rfl, rfl⟩

set_option maxRecDepth 20000 in
theorem w_spec_WayTimes  {a0 : Way} {n0 : Int} {r : Way} (h : p_spec_WayTimes a0 n0 = some r) :
    Triple Tryd.prog 99 [.agg #[.int .i64 a0.e, .int .i64 a0.n, .int .i64 a0.u], .int .i64 n0] [] [] (fun v ch => v = .agg #[.int .i64 r.e, .int .i64 r.n, .int .i64 r.u] ∧ ch = []) := by
  refine triple_start 18 Tryd.func99 Tryd.ntmps99 rfl rfl (fun w0 => ?_)
  unfold p_spec_WayTimes at h
  refine kwp_seq ?_
  refine kwp_region ?_
  refine kk (n_box (e := [.int .i64 a0.e, .int .i64 a0.n, .int .i64 a0.u]) 3 (fun p2_1 => ?_))
  refine kk (n_alloc (e := [.int .i64 0, .int .i64 0, .int .i64 0]) 3 Tryd.zeroValue37 (fun p4_2 => ?_))
  refine kops_nil ?_
  refine kn_then ?_
  refine kwp_seq ?_
  refine kwp_region ?_
  refine kd (v_mv) ?_
  refine kd (v_fb fa_37_0) ?_
  refine kd (v_ldb Tryd.isAgg3) ?_
  refine kd (v_mul) ?_
  refine kd (v_mv) ?_
  refine kd (v_fb fa_37_1) ?_
  refine kd (v_ldb Tryd.isAgg3) ?_
  refine kd (v_mul) ?_
  refine kd (v_mv) ?_
  refine kd (v_fb fa_37_2) ?_
  refine kd (v_ldb Tryd.isAgg3) ?_
  refine kd (v_mul) ?_
  refine kd (v_bd [(0, _), (1, _), (2, _)] [_, _, _] Tryd.zeroValue37 Tryd.runUnderlying37 pl_37) ?_
  refine kk (s_B (e' := [.int .i64 (w64 (n0 * a0.e)), .int .i64 (w64 (n0 * a0.n)), .int .i64 (w64 (n0 * a0.u))]) Tryd.sizeOf37 ?_)
  refine kops_nil ?_
  refine kn_then ?_
  refine kwp_ret ?_
  obtain rfl := e_some h
  refine rc Tryd.isAgg37 Tryd.sizeOf37 [] ?_
  exact ⟨rfl, rfl⟩

set_option maxRecDepth 20000 in
theorem w_spec_l1Way  {g0 : Leg} {r : Way} (h : p_spec_l1Way g0 = some r) :
    Triple Tryd.prog 100 [.agg #[.int .i64 g0.f, .int .i64 g0.t, .int .i64 g0.e, .int .i64 g0.n, .int .i64 g0.u]] [] [] (fun v ch => v = .agg #[.int .i64 r.e, .int .i64 r.n, .int .i64 r.u] ∧ ch = []) := by
  refine triple_start 10 Tryd.func100 Tryd.ntmps100 rfl rfl (fun w0 => ?_)
  unfold p_spec_l1Way at h
  refine kwp_seq ?_
  refine kwp_region ?_
  refine kk (n_box (e := [.int .i64 g0.f, .int .i64 g0.t, .int .i64 g0.e, .int .i64 g0.n, .int .i64 g0.u]) 5 (fun p1_1 => ?_))
  refine kk (n_alloc (e := [.int .i64 0, .int .i64 0, .int .i64 0]) 3 Tryd.zeroValue37 (fun p2_2 => ?_))
  refine kops_nil ?_
  refine kn_then ?_
  refine kwp_seq ?_
  refine kwp_region ?_
  refine kd (v_fb fa_48_2) ?_
  refine kd (v_ldb Tryd.isAgg3) ?_
  refine kd (v_fb fa_48_3) ?_
  refine kd (v_ldb Tryd.isAgg3) ?_
  refine kd (v_fb fa_48_4) ?_
  refine kd (v_ldb Tryd.isAgg3) ?_
  refine kd (v_bd [(0, _), (1, _), (2, _)] [_, _, _] Tryd.zeroValue37 Tryd.runUnderlying37 pl_37) ?_
  refine kk (s_B (e' := [.int .i64 g0.e, .int .i64 g0.n, .int .i64 g0.u]) Tryd.sizeOf37 ?_)
  refine kops_nil ?_
  refine kn_then ?_
  refine kwp_ret ?_
  obtain rfl := e_some h
  refine rc Tryd.isAgg37 Tryd.sizeOf37 [] ?_
  exact ⟨rfl, rfl⟩

end Go.Proofs.YtnibfmofkamjoaaDoor
