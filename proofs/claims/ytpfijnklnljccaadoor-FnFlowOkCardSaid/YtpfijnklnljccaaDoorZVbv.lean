/- What the plain programs return, the functions of the program return; no condition. -/
import Derived.Test.YtpfijnklnljccaaDoorZQ
import Derived.Test.YtpfijnklnljccaaDoorZFa
namespace Go.Proofs.YtpfijnklnljccaaDoor
open Go
set_option linter.unusedVariables false
set_option linter.unusedSimpArgs false

set_option maxRecDepth 20000 in
theorem w_impl_isIndex  {number0 : Int} {many0 : Int} {r : Bool} (h : p_impl_isIndex number0 many0 = some r) :
    Triple Tryd.prog 63 [.int .i64 number0, .int .i64 many0] [] [] (fun v ch => v = .bool r ∧ ch = []) := by
  refine triple_start 12 Tryd.func63 Tryd.ntmps63 rfl rfl (fun w0 => ?_)
  unfold p_impl_isIndex at h
  refine kwp_seq ?_
  refine kwp_region ?_
  refine kd (v_as) ?_
  refine kops_nil ?_
  refine kn_then ?_
  refine kwp_seq ?_
  refine kwp_region ?_
  refine kd (v_mv) ?_
  refine kd (v_cmp) ?_
  refine kd (v_mv) ?_
  refine kops_split 7 rfl (fun hb1 => ?_) (fun hb1 => ?_)
  ·
    replace h := e_t h hb1
    refine kgd hb1 (v_mv) ?_
    refine kgd hb1 (v_mv) ?_
    refine kgd hb1 (v_cmp) ?_
    refine kd (v_pt hb1) ?_
    refine kd (v_as) ?_
    refine kops_nil ?_
    refine kn_then ?_
    refine kwp_ret ?_
    obtain rfl := e_some h
    refine r1 [] ?_
    exact ⟨rfl, rfl⟩
  ·
    replace h := e_f h hb1
    refine kskip hb1 ?_
    refine kskip hb1 ?_
    refine kskip hb1 ?_
    refine kd (v_pf hb1) ?_
    refine kd (v_as) ?_
    refine kops_nil ?_
    refine kn_then ?_
    refine kwp_ret ?_
    obtain rfl := e_some h
    refine r1 [] ?_
    exact ⟨rfl, rfl⟩

set_option maxRecDepth 20000 in
theorem w_impl_isWithin  {number0 : Int} {limit0 : Int} {r : Bool} (h : p_impl_isWithin number0 limit0 = some r) :
    Triple Tryd.prog 89 [.int .i64 number0, .int .i64 limit0] [] [] (fun v ch => v = .bool r ∧ ch = []) := by
  refine triple_start 14 Tryd.func89 Tryd.ntmps89 rfl rfl (fun w0 => ?_)
  unfold p_impl_isWithin at h
  refine kwp_seq ?_
  refine kwp_region ?_
  refine kd (v_as) ?_
  refine kops_nil ?_
  refine kn_then ?_
  refine kwp_seq ?_
  refine kwp_region ?_
  refine kd (v_mv) ?_
  refine kd (v_mv) ?_
  refine kd (v_neg) ?_
  refine kd (v_cmp) ?_
  refine kd (v_mv) ?_
  refine kops_split 9 rfl (fun hb1 => ?_) (fun hb1 => ?_)
  ·
    replace h := e_t h hb1
    refine kgd hb1 (v_mv) ?_
    refine kgd hb1 (v_mv) ?_
    refine kgd hb1 (v_cmp) ?_
    refine kd (v_pt hb1) ?_
    refine kd (v_as) ?_
    refine kops_nil ?_
    refine kn_then ?_
    refine kwp_ret ?_
    obtain rfl := e_some h
    refine r1 [] ?_
    exact ⟨rfl, rfl⟩
  ·
    replace h := e_f h hb1
    refine kskip hb1 ?_
    refine kskip hb1 ?_
    refine kskip hb1 ?_
    refine kd (v_pf hb1) ?_
    refine kd (v_as) ?_
    refine kops_nil ?_
    refine kn_then ?_
    refine kwp_ret ?_
    obtain rfl := e_some h
    refine r1 [] ?_
    exact ⟨rfl, rfl⟩

set_option maxRecDepth 20000 in
theorem w_spec_l1In  {n0 : Int} {low0 : Int} {high0 : Int} {r : Bool} (h : p_spec_l1In n0 low0 high0 = some r) :
    Triple Tryd.prog 60 [.int .i64 n0, .int .i64 low0, .int .i64 high0] [] [] (fun v ch => v = .bool r ∧ ch = []) := by
  refine triple_start 15 Tryd.func60 Tryd.ntmps60 rfl rfl (fun w0 => ?_)
  unfold p_spec_l1In at h
  refine kwp_seq ?_
  refine kwp_region ?_
  refine kd (v_as) ?_
  refine kops_nil ?_
  refine kn_then ?_
  refine kwp_seq ?_
  refine kwp_region ?_
  refine kd (v_mv) ?_
  refine kd (v_mv) ?_
  refine kd (v_cmp) ?_
  refine kd (v_mv) ?_
  refine kops_split 10 rfl (fun hb1 => ?_) (fun hb1 => ?_)
  ·
    replace h := e_t h hb1
    refine kgd hb1 (v_mv) ?_
    refine kgd hb1 (v_mv) ?_
    refine kgd hb1 (v_cmp) ?_
    refine kd (v_pt hb1) ?_
    refine kd (v_as) ?_
    refine kops_nil ?_
    refine kn_then ?_
    refine kwp_ret ?_
    obtain rfl := e_some h
    refine r1 [] ?_
    exact ⟨rfl, rfl⟩
  ·
    replace h := e_f h hb1
    refine kskip hb1 ?_
    refine kskip hb1 ?_
    refine kskip hb1 ?_
    refine kd (v_pf hb1) ?_
    refine kd (v_as) ?_
    refine kops_nil ?_
    refine kn_then ?_
    refine kwp_ret ?_
    obtain rfl := e_some h
    refine r1 [] ?_
    exact ⟨rfl, rfl⟩

set_option maxRecDepth 20000 in
theorem w_impl_stepFits  {number0 : Int} {r : Bool} (h : p_impl_stepFits number0 = some r) :
    Triple Tryd.prog 108 [.int .i64 number0] [] [] (fun v ch => v = .bool r ∧ ch = []) := by
  refine triple_start 5 Tryd.func108 Tryd.ntmps108 rfl rfl (fun w0 => ?_)
  unfold p_impl_stepFits at h
  refine kwp_seq ?_
  refine kwp_region ?_
  refine kd (v_as) ?_
  refine kops_nil ?_
  refine kn_then ?_
  refine kwp_seq ?_
  refine kwp_region ?_
  refine kd (v_mv) ?_
  obtain ⟨v2, hv1, h⟩ := e_bind h
  refine kk (n_call Tryd.call89 (w_impl_isWithin hv1) ?_)
  rintro _ _ ⟨rfl, rfl⟩
  refine kd (v_as) ?_
  refine kops_nil ?_
  refine kn_then ?_
  refine kwp_ret ?_
  obtain rfl := e_some h
  refine r1 [] ?_
  exact ⟨rfl, rfl⟩

set_option maxRecDepth 20000 in
set_option maxHeartbeats 2000000 in
theorem w_impl_LegValid  {stations0 : Int} {g0 : Leg} {r : Bool} (h : p_impl_LegValid stations0 g0 = some r) :
    Triple Tryd.prog 90 [.int .i64 stations0, .agg #[.int .i64 g0.f, .int .i64 g0.t, .int .i64 g0.e, .int .i64 g0.n, .int .i64 g0.u]] [] [] (fun v ch => v = .bool r ∧ ch = []) := by
  refine triple_start 43 Tryd.func90 Tryd.ntmps90 rfl rfl (fun w0 => ?_)
  unfold p_impl_LegValid at h
  refine kwp_seq ?_
  refine kwp_region ?_
  refine kk (n_box (e := [.int .i64 g0.f, .int .i64 g0.t, .int .i64 g0.e, .int .i64 g0.n, .int .i64 g0.u]) 5 (fun p3_1 => ?_))
  refine kd (v_as) ?_
  refine kops_nil ?_
  refine kn_then ?_
  refine kwp_seq ?_
  refine kwp_seq ?_
  refine kwp_cutE (inv := [(0, .int .i64 stations0), (3, .pointer (some p3_1))]) (fun (z : Bool) (y : Unit) => [(10, .bool z)]) (fun (z : Bool) (y : Unit) => [⟨.pointer (some p3_1), 5, [[.int .i64 g0.f, .int .i64 g0.t, .int .i64 g0.e, .int .i64 g0.n, .int .i64 g0.u]]⟩]) (fun _ _ => True) h ?_ ?_
  · intro t5 h3
    refine kwp_region ?_
    refine kd (v_mv) ?_
    refine kd (v_cmp) ?_
    refine kd (v_mv) ?_
    refine kops_split 7 rfl (fun hb6 => ?_) (fun hb6 => ?_)
    ·
      replace h3 := e_t h3 hb6
      refine kskip hb6 ?_
      refine kskip hb6 ?_
      refine kd (v_pt hb6) ?_
      refine kops_nil ?_
      refine kn_then ?_
      obtain rfl := e_some h3
      exact ⟨(), hd_mk trivial⟩
    ·
      replace h3 := e_f h3 hb6
      refine kgd hb6 (v_mv) ?_
      refine kgd hb6 (v_cmp) ?_
      refine kd (v_pf hb6) ?_
      refine kops_nil ?_
      refine kn_then ?_
      obtain rfl := e_some h3
      exact ⟨(), hd_mk trivial⟩
  · intro x2 y8 _ h9
    refine kn_then ?_
    refine kwp_cond rfl (fun hc10 => ?_) (fun hc10 => ?_)
    ·
      replace h9 := e_t h9 hc10
      refine kwp_seq ?_
      refine kwp_region ?_
      refine kd (v_as) ?_
      refine kops_nil ?_
      refine kn_then ?_
      refine kwp_ret ?_
      refine kr_then ?_
      obtain rfl := e_some h9
      refine r1 [] ?_
      exact ⟨rfl, rfl⟩
    ·
      replace h9 := e_f h9 hc10
      refine kwp_skip ?_
      refine kn_then ?_
      refine kwp_seq ?_
      refine kwp_seq ?_
      refine kwp_cutE (inv := [(3, .pointer (some p3_1))]) (fun (z : Bool) (y : Unit) => [(29, .bool z)]) (fun (z : Bool) (y : Unit) => [⟨.pointer (some p3_1), 5, [[.int .i64 g0.f, .int .i64 g0.t, .int .i64 g0.e, .int .i64 g0.n, .int .i64 g0.u]]⟩]) (fun _ _ => True) h9 ?_ ?_
      · intro t14 h12
        refine kwp_region ?_
        refine kd (v_fb fa_55_0) ?_
        refine kd (v_ldb Tryd.isAgg3) ?_
        refine kd (v_mv) ?_
        obtain ⟨v16, hv15, h12⟩ := e_bind h12
        refine kk (n_call Tryd.call63 (w_impl_isIndex hv15) ?_)
        rintro _ _ ⟨rfl, rfl⟩
        refine kd (v_not) ?_
        refine kd (v_mv) ?_
        refine kops_split 16 rfl (fun hb18 => ?_) (fun hb18 => ?_)
        ·
          replace h12 := e_t h12 hb18
          refine kskip hb18 ?_
          refine kskip hb18 ?_
          refine kskip hb18 ?_
          refine kskip hb18 ?_
          refine kskip hb18 ?_
          refine kd (v_pt hb18) ?_
          refine kd (v_mv) ?_
          refine kskip rfl ?_
          refine kskip rfl ?_
          refine kskip rfl ?_
          refine kskip rfl ?_
          refine kskip rfl ?_
          refine kd (v_pt rfl) ?_
          refine kops_nil ?_
          refine kn_then ?_
          obtain rfl := e_some h12
          exact ⟨(), hd_mk trivial⟩
        ·
          replace h12 := e_f h12 hb18
          refine kgd hb18 (v_fb fa_55_1) ?_
          refine kgd hb18 (v_ldb Tryd.isAgg3) ?_
          refine kgd hb18 (v_mv) ?_
          obtain ⟨v20, hv19, h12⟩ := e_bind h12
          refine kgk hb18 (n_call Tryd.call63 (w_impl_isIndex hv19) ?_)
          rintro _ _ ⟨rfl, rfl⟩
          refine kgd hb18 (v_not) ?_
          refine kd (v_pf hb18) ?_
          refine kd (v_mv) ?_
          refine kops_split 23 rfl (fun hb22 => ?_) (fun hb22 => ?_)
          ·
            replace h12 := e_t h12 hb22
            refine kskip hb22 ?_
            refine kskip hb22 ?_
            refine kskip hb22 ?_
            refine kskip hb22 ?_
            refine kskip hb22 ?_
            refine kd (v_pt hb22) ?_
            refine kops_nil ?_
            refine kn_then ?_
            obtain rfl := e_some h12
            exact ⟨(), hd_mk trivial⟩
          ·
            replace h12 := e_f h12 hb22
            refine kgd hb22 (v_fb fa_55_0) ?_
            refine kgd hb22 (v_ldb Tryd.isAgg3) ?_
            refine kgd hb22 (v_fb fa_55_1) ?_
            refine kgd hb22 (v_ldb Tryd.isAgg3) ?_
            refine kgd hb22 (v_cmp) ?_
            refine kd (v_pf hb22) ?_
            refine kops_nil ?_
            refine kn_then ?_
            obtain rfl := e_some h12
            exact ⟨(), hd_mk trivial⟩
      · intro x11 y24 _ h25
        refine kn_then ?_
        refine kwp_cond rfl (fun hc26 => ?_) (fun hc26 => ?_)
        ·
          replace h25 := e_t h25 hc26
          refine kwp_seq ?_
          refine kwp_region ?_
          refine kd (v_as) ?_
          refine kops_nil ?_
          refine kn_then ?_
          refine kwp_ret ?_
          refine kr_then ?_
          obtain rfl := e_some h25
          refine r1 [] ?_
          exact ⟨rfl, rfl⟩
        ·
          replace h25 := e_f h25 hc26
          refine kwp_skip ?_
          refine kn_then ?_
          refine kwp_seq ?_
          refine kwp_region ?_
          refine kd (v_fb fa_55_2) ?_
          refine kd (v_ldb Tryd.isAgg3) ?_
          obtain ⟨v28, hv27, h25⟩ := e_bind h25
          refine kk (n_call Tryd.call108 (w_impl_stepFits hv27) ?_)
          rintro _ _ ⟨rfl, rfl⟩
          refine kd (v_mv) ?_
          refine kops_split 33 rfl (fun hb30 => ?_) (fun hb30 => ?_)
          ·
            replace h25 := e_t h25 hb30
            refine kgd hb30 (v_fb fa_55_3) ?_
            refine kgd hb30 (v_ldb Tryd.isAgg3) ?_
            obtain ⟨v32, hv31, h25⟩ := e_bind h25
            refine kgk hb30 (n_call Tryd.call108 (w_impl_stepFits hv31) ?_)
            rintro _ _ ⟨rfl, rfl⟩
            refine kd (v_pt hb30) ?_
            refine kd (v_mv) ?_
            refine kops_split 38 rfl (fun hb34 => ?_) (fun hb34 => ?_)
            ·
              replace h25 := e_t h25 hb34
              refine kgd hb34 (v_fb fa_55_4) ?_
              refine kgd hb34 (v_ldb Tryd.isAgg3) ?_
              obtain ⟨v36, hv35, h25⟩ := e_bind h25
              refine kgk hb34 (n_call Tryd.call108 (w_impl_stepFits hv35) ?_)
              rintro _ _ ⟨rfl, rfl⟩
              refine kd (v_pt hb34) ?_
              refine kd (v_as) ?_
              refine kops_nil ?_
              refine kn_then ?_
              refine kwp_ret ?_
              obtain rfl := e_some h25
              refine r1 [] ?_
              exact ⟨rfl, rfl⟩
            ·
              replace h25 := e_f h25 hb34
              refine kskip hb34 ?_
              refine kskip hb34 ?_
              refine kskip hb34 ?_
              refine kd (v_pf hb34) ?_
              refine kd (v_as) ?_
              refine kops_nil ?_
              refine kn_then ?_
              refine kwp_ret ?_
              obtain rfl := e_some h25
              refine r1 [] ?_
              exact ⟨rfl, rfl⟩
          ·
            replace h25 := e_f h25 hb30
            refine kskip hb30 ?_
            refine kskip hb30 ?_
            refine kskip hb30 ?_
            refine kd (v_pf hb30) ?_
            refine kd (v_mv) ?_
            refine kskip rfl ?_
            refine kskip rfl ?_
            refine kskip rfl ?_
            refine kd (v_pf rfl) ?_
            refine kd (v_as) ?_
            refine kops_nil ?_
            refine kn_then ?_
            refine kwp_ret ?_
            obtain rfl := e_some h25
            refine r1 [] ?_
            exact ⟨rfl, rfl⟩

set_option maxRecDepth 20000 in
theorem w_impl_legWay  {g0 : Leg} {r : Way} (h : p_impl_legWay g0 = some r) :
    Triple Tryd.prog 93 [.agg #[.int .i64 g0.f, .int .i64 g0.t, .int .i64 g0.e, .int .i64 g0.n, .int .i64 g0.u]] [] [] (fun v ch => v = .agg #[.int .i64 r.e, .int .i64 r.n, .int .i64 r.u] ∧ ch = []) := by
  refine triple_start 10 Tryd.func93 Tryd.ntmps93 rfl rfl (fun w0 => ?_)
  unfold p_impl_legWay at h
  refine kwp_seq ?_
  refine kwp_region ?_
  refine kk (n_box (e := [.int .i64 g0.f, .int .i64 g0.t, .int .i64 g0.e, .int .i64 g0.n, .int .i64 g0.u]) 5 (fun p1_1 => ?_))
  refine kk (n_alloc (e := [.int .i64 0, .int .i64 0, .int .i64 0]) 3 Tryd.zeroValue105 (fun p2_2 => ?_))
  refine kops_nil ?_
  refine kn_then ?_
  refine kwp_seq ?_
  refine kwp_region ?_
  refine kd (v_fb fa_55_2) ?_
  refine kd (v_ldb Tryd.isAgg3) ?_
  refine kd (v_fb fa_55_3) ?_
  refine kd (v_ldb Tryd.isAgg3) ?_
  refine kd (v_fb fa_55_4) ?_
  refine kd (v_ldb Tryd.isAgg3) ?_
  refine kd (v_bd [(0, _), (1, _), (2, _)] [_, _, _] Tryd.zeroValue105 Tryd.runUnderlying105 pl_105) ?_
  refine kk (s_B (e' := [.int .i64 g0.e, .int .i64 g0.n, .int .i64 g0.u]) Tryd.sizeOf105 ?_)
  refine kops_nil ?_
  refine kn_then ?_
  refine kwp_ret ?_
  obtain rfl := e_some h
  refine rc Tryd.isAgg105 Tryd.sizeOf105 [] ?_
  exact ⟨rfl, rfl⟩

end Go.Proofs.YtpfijnklnljccaaDoor
