/- What the plain programs return, the functions of the program return; no condition. -/
import Derived.Test.YtpfijnklnljccaaDoorQf
import Derived.Test.YtpfijnklnljccaaDoorFa
import Derived.Test.YtpfijnklnljccaaDoorVv
namespace Go.Proofs.YtpfijnklnljccaaDoor
open Go
set_option linter.unusedVariables false
set_option linter.unusedSimpArgs false

set_option maxRecDepth 20000 in
theorem w_impl_fracFits  {f0 : Frac} {r : Bool} (h : p_impl_fracFits f0 = some r) :
    Triple Tryd.prog 59 [.agg #[.int .i64 f0.num, .int .i64 f0.den]] [] [] (fun v ch => v = .bool r ∧ ch = []) := by
  refine triple_start 16 Tryd.func59 Tryd.ntmps59 rfl rfl (fun w0 => ?_)
  unfold p_impl_fracFits at h
  refine kwp_seq ?_
  refine kwp_region ?_
  refine kk (n_box (e := [.int .i64 f0.num, .int .i64 f0.den]) 2 (fun p1_1 => ?_))
  refine kd (v_as) ?_
  refine kops_nil ?_
  refine kn_then ?_
  refine kwp_seq ?_
  refine kwp_region ?_
  refine kd (v_fb fa_24_0) ?_
  refine kd (v_ldb Tryd.isAgg3) ?_
  obtain ⟨v3, hv2, h⟩ := e_bind h
  refine kk (n_call Tryd.call89 (w_impl_isWithin hv2) ?_)
  rintro _ _ ⟨rfl, rfl⟩
  refine kd (v_mv) ?_
  refine kops_split 6 rfl (fun hb5 => ?_) (fun hb5 => ?_)
  ·
    replace h := e_t h hb5
    refine kgd hb5 (v_fb fa_24_1) ?_
    refine kgd hb5 (v_ldb Tryd.isAgg3) ?_
    refine kgd hb5 (v_cmp) ?_
    refine kd (v_pt hb5) ?_
    refine kd (v_mv) ?_
    refine kops_split 11 rfl (fun hb6 => ?_) (fun hb6 => ?_)
    ·
      replace h := e_t h hb6
      refine kgd hb6 (v_fb fa_24_1) ?_
      refine kgd hb6 (v_ldb Tryd.isAgg3) ?_
      refine kgd hb6 (v_cmp) ?_
      refine kd (v_pt hb6) ?_
      refine kd (v_as) ?_
      refine kops_nil ?_
      refine kn_then ?_
      refine kwp_ret ?_
      obtain rfl := e_some h
      refine r1 [] ?_
      exact ⟨rfl, rfl⟩
    ·
      replace h := e_f h hb6
      refine kskip hb6 ?_
      refine kskip hb6 ?_
      refine kskip hb6 ?_
      refine kd (v_pf hb6) ?_
      refine kd (v_as) ?_
      refine kops_nil ?_
      refine kn_then ?_
      refine kwp_ret ?_
      obtain rfl := e_some h
      refine r1 [] ?_
      exact ⟨rfl, rfl⟩
  ·
    replace h := e_f h hb5
    refine kskip hb5 ?_
    refine kskip hb5 ?_
    refine kskip hb5 ?_
    refine kd (v_pf hb5) ?_
    refine kd (v_mv) ?_
    refine kskip rfl ?_
    refine kskip rfl ?_
    refine kskip rfl ?_
    refine kd (v_pf rfl) ?_
    refine kd (v_as) ?_
    refine kops_nil ?_
    refine kn_then ?_
    refine kwp_ret ?_
    obtain rfl := e_some h
    refine r1 [] ?_
    exact ⟨rfl, rfl⟩

set_option maxRecDepth 20000 in
theorem w_impl_FracLess  {a0 : Frac} {b0 : Frac} {r : Bool} (h : p_impl_FracLess a0 b0 = some r) :
    Triple Tryd.prog 16 [.agg #[.int .i64 a0.num, .int .i64 a0.den], .agg #[.int .i64 b0.num, .int .i64 b0.den]] [] [] (fun v ch => v = .bool r ∧ ch = []) := by
  refine triple_start 24 Tryd.func16 Tryd.ntmps16 rfl rfl (fun w0 => ?_)
  unfold p_impl_FracLess at h
  refine kwp_seq ?_
  refine kwp_region ?_
  refine kk (n_box (e := [.int .i64 a0.num, .int .i64 a0.den]) 2 (fun p2_1 => ?_))
  refine kk (n_box (e := [.int .i64 b0.num, .int .i64 b0.den]) 2 (fun p3_2 => ?_))
  refine kd (v_as) ?_
  refine kops_nil ?_
  refine kn_then ?_
  refine kwp_seq ?_
  refine kwp_seq ?_
  refine kwp_cutE (inv := [(2, .pointer (some p2_1)), (3, .pointer (some p3_2))]) (fun (z : Bool) (y : Unit) => [(12, .bool z)]) (fun (z : Bool) (y : Unit) => [⟨.pointer (some p2_1), 2, [[.int .i64 a0.num, .int .i64 a0.den]]⟩, ⟨.pointer (some p3_2), 2, [[.int .i64 b0.num, .int .i64 b0.den]]⟩]) (fun _ _ => True) h ?_ ?_
  · intro t6 h4
    refine kwp_region ?_
    refine kd (v_ldB Tryd.isAgg24 Tryd.sizeOf24) ?_
    obtain ⟨v8, hv7, h4⟩ := e_bind h4
    refine kk (n_call Tryd.call59 (w_impl_fracFits hv7) ?_)
    rintro _ _ ⟨rfl, rfl⟩
    refine kd (v_not) ?_
    refine kd (v_mv) ?_
    refine kops_split 8 rfl (fun hb10 => ?_) (fun hb10 => ?_)
    ·
      replace h4 := e_t h4 hb10
      refine kskip hb10 ?_
      refine kskip hb10 ?_
      refine kskip hb10 ?_
      refine kd (v_pt hb10) ?_
      refine kops_nil ?_
      refine kn_then ?_
      obtain rfl := e_some h4
      exact ⟨(), hd_mk trivial⟩
    ·
      replace h4 := e_f h4 hb10
      refine kgd hb10 (v_ldB Tryd.isAgg24 Tryd.sizeOf24) ?_
      obtain ⟨v12, hv11, h4⟩ := e_bind h4
      refine kgk hb10 (n_call Tryd.call59 (w_impl_fracFits hv11) ?_)
      rintro _ _ ⟨rfl, rfl⟩
      refine kgd hb10 (v_not) ?_
      refine kd (v_pf hb10) ?_
      refine kops_nil ?_
      refine kn_then ?_
      obtain rfl := e_some h4
      exact ⟨(), hd_mk trivial⟩
  · intro x3 y15 _ h16
    refine kn_then ?_
    refine kwp_cond rfl (fun hc17 => ?_) (fun hc17 => ?_)
    ·
      replace h16 := e_t h16 hc17
      refine kwp_seq ?_
      refine kwp_region ?_
      refine kd (v_as) ?_
      refine kops_nil ?_
      refine kn_then ?_
      refine kwp_ret ?_
      refine kr_then ?_
      obtain rfl := e_some h16
      refine r1 [] ?_
      exact ⟨rfl, rfl⟩
    ·
      replace h16 := e_f h16 hc17
      refine kwp_skip ?_
      refine kn_then ?_
      refine kwp_seq ?_
      refine kwp_region ?_
      refine kd (v_fb fa_24_0) ?_
      refine kd (v_ldb Tryd.isAgg3) ?_
      refine kd (v_fb fa_24_1) ?_
      refine kd (v_ldb Tryd.isAgg3) ?_
      refine kd (v_mul) ?_
      refine kd (v_fb fa_24_0) ?_
      refine kd (v_ldb Tryd.isAgg3) ?_
      refine kd (v_fb fa_24_1) ?_
      refine kd (v_ldb Tryd.isAgg3) ?_
      refine kd (v_mul) ?_
      refine kd (v_cmp) ?_
      refine kd (v_as) ?_
      refine kops_nil ?_
      refine kn_then ?_
      refine kwp_ret ?_
      obtain rfl := e_some h16
      refine r1 [] ?_
      exact ⟨rfl, rfl⟩

set_option maxRecDepth 20000 in
theorem w_spec_FracLess  {a0 : Frac} {b0 : Frac} {r : Bool} (h : p_spec_FracLess a0 b0 = some r) :
    Triple Tryd.prog 17 [.agg #[.int .i64 a0.num, .int .i64 a0.den], .agg #[.int .i64 b0.num, .int .i64 b0.den]] [] [] (fun v ch => v = .bool r ∧ ch = []) := by
  refine triple_start 36 Tryd.func17 Tryd.ntmps17 rfl rfl (fun w0 => ?_)
  unfold p_spec_FracLess at h
  refine kwp_seq ?_
  refine kwp_region ?_
  refine kk (n_box (e := [.int .i64 a0.num, .int .i64 a0.den]) 2 (fun p2_1 => ?_))
  refine kk (n_box (e := [.int .i64 b0.num, .int .i64 b0.den]) 2 (fun p3_2 => ?_))
  refine kd (v_as) ?_
  refine kops_nil ?_
  refine kn_then ?_
  refine kwp_seq ?_
  refine kwp_region ?_
  refine kd (v_fb fa_24_0) ?_
  refine kd (v_ldb Tryd.isAgg3) ?_
  obtain ⟨v4, hv3, h⟩ := e_bind h
  refine kk (n_call Tryd.call60 (w_spec_l1In hv3) ?_)
  rintro _ _ ⟨rfl, rfl⟩
  refine kd (v_mv) ?_
  refine kops_split 8 rfl (fun hb6 => ?_) (fun hb6 => ?_)
  ·
    replace h := e_t h hb6
    refine kgd hb6 (v_fb fa_24_0) ?_
    refine kgd hb6 (v_ldb Tryd.isAgg3) ?_
    obtain ⟨v8, hv7, h⟩ := e_bind h
    refine kgk hb6 (n_call Tryd.call60 (w_spec_l1In hv7) ?_)
    rintro _ _ ⟨rfl, rfl⟩
    refine kd (v_pt hb6) ?_
    refine kd (v_mv) ?_
    refine kops_split 13 rfl (fun hb10 => ?_) (fun hb10 => ?_)
    ·
      replace h := e_t h hb10
      refine kgd hb10 (v_fb fa_24_1) ?_
      refine kgd hb10 (v_ldb Tryd.isAgg3) ?_
      obtain ⟨v12, hv11, h⟩ := e_bind h
      refine kgk hb10 (n_call Tryd.call60 (w_spec_l1In hv11) ?_)
      rintro _ _ ⟨rfl, rfl⟩
      refine kd (v_pt hb10) ?_
      refine kd (v_mv) ?_
      refine kops_split 18 rfl (fun hb14 => ?_) (fun hb14 => ?_)
      ·
        replace h := e_t h hb14
        refine kgd hb14 (v_fb fa_24_1) ?_
        refine kgd hb14 (v_ldb Tryd.isAgg3) ?_
        obtain ⟨v16, hv15, h⟩ := e_bind h
        refine kgk hb14 (n_call Tryd.call60 (w_spec_l1In hv15) ?_)
        rintro _ _ ⟨rfl, rfl⟩
        refine kd (v_pt hb14) ?_
        refine kd (v_mv) ?_
        refine kops_split 23 rfl (fun hb18 => ?_) (fun hb18 => ?_)
        ·
          replace h := e_t h hb18
          refine kgd hb18 (v_fb fa_24_0) ?_
          refine kgd hb18 (v_ldb Tryd.isAgg3) ?_
          refine kgd hb18 (v_fb fa_24_1) ?_
          refine kgd hb18 (v_ldb Tryd.isAgg3) ?_
          refine kgd hb18 (v_mul) ?_
          refine kgd hb18 (v_fb fa_24_0) ?_
          refine kgd hb18 (v_ldb Tryd.isAgg3) ?_
          refine kgd hb18 (v_fb fa_24_1) ?_
          refine kgd hb18 (v_ldb Tryd.isAgg3) ?_
          refine kgd hb18 (v_mul) ?_
          refine kgd hb18 (v_cmp) ?_
          refine kd (v_pt hb18) ?_
          refine kd (v_as) ?_
          refine kops_nil ?_
          refine kn_then ?_
          refine kwp_ret ?_
          obtain rfl := e_some h
          refine r1 [] ?_
          exact ⟨rfl, rfl⟩
        ·
          replace h := e_f h hb18
          refine kskip hb18 ?_
          refine kskip hb18 ?_
          refine kskip hb18 ?_
          refine kskip hb18 ?_
          refine kskip hb18 ?_
          refine kskip hb18 ?_
          refine kskip hb18 ?_
          refine kskip hb18 ?_
          refine kskip hb18 ?_
          refine kskip hb18 ?_
          refine kskip hb18 ?_
          refine kd (v_pf hb18) ?_
          refine kd (v_as) ?_
          refine kops_nil ?_
          refine kn_then ?_
          refine kwp_ret ?_
          obtain rfl := e_some h
          refine r1 [] ?_
          exact ⟨rfl, rfl⟩
      ·
        replace h := e_f h hb14
        refine kskip hb14 ?_
        refine kskip hb14 ?_
        refine kskip hb14 ?_
        refine kd (v_pf hb14) ?_
        refine kd (v_mv) ?_
        refine kskip rfl ?_
        refine kskip rfl ?_
        refine kskip rfl ?_
        refine kskip rfl ?_
        refine kskip rfl ?_
        refine kskip rfl ?_
        refine kskip rfl ?_
        refine kskip rfl ?_
        refine kskip rfl ?_
        refine kskip rfl ?_
        refine kskip rfl ?_
        refine kd (v_pf rfl) ?_
        refine kd (v_as) ?_
        refine kops_nil ?_
        refine kn_then ?_
        refine kwp_ret ?_
        obtain rfl := e_some h
        refine r1 [] ?_
        exact ⟨rfl, rfl⟩
    ·
      replace h := e_f h hb10
      refine kskip hb10 ?_
      refine kskip hb10 ?_
      refine kskip hb10 ?_
      refine kd (v_pf hb10) ?_
      refine kd (v_mv) ?_
      refine kskip rfl ?_
      refine kskip rfl ?_
      refine kskip rfl ?_
      refine kd (v_pf rfl) ?_
      refine kd (v_mv) ?_
      refine kskip rfl ?_
      refine kskip rfl ?_
      refine kskip rfl ?_
      refine kskip rfl ?_
      refine kskip rfl ?_
      refine kskip rfl ?_
      refine kskip rfl ?_
      refine kskip rfl ?_
      refine kskip rfl ?_
      refine kskip rfl ?_
      refine kskip rfl ?_
      refine kd (v_pf rfl) ?_
      refine kd (v_as) ?_
      refine kops_nil ?_
      refine kn_then ?_
      refine kwp_ret ?_
      obtain rfl := e_some h
      refine r1 [] ?_
      exact ⟨rfl, rfl⟩
  ·
    replace h := e_f h hb6
    refine kskip hb6 ?_
    refine kskip hb6 ?_
    refine kskip hb6 ?_
    refine kd (v_pf hb6) ?_
    refine kd (v_mv) ?_
    refine kskip rfl ?_
    refine kskip rfl ?_
    refine kskip rfl ?_
    refine kd (v_pf rfl) ?_
    refine kd (v_mv) ?_
    refine kskip rfl ?_
    refine kskip rfl ?_
    refine kskip rfl ?_
    refine kd (v_pf rfl) ?_
    refine kd (v_mv) ?_
    refine kskip rfl ?_
    refine kskip rfl ?_
    refine kskip rfl ?_
    refine kskip rfl ?_
    refine kskip rfl ?_
    refine kskip rfl ?_
    refine kskip rfl ?_
    refine kskip rfl ?_
    refine kskip rfl ?_
    refine kskip rfl ?_
    refine kskip rfl ?_
    refine kd (v_pf rfl) ?_
    refine kd (v_as) ?_
    refine kops_nil ?_
    refine kn_then ?_
    refine kwp_ret ?_
    obtain rfl := e_some h
    refine r1 [] ?_
    exact ⟨rfl, rfl⟩

end Go.Proofs.YtpfijnklnljccaaDoor
