/- What the plain programs return, the functions of the program return; no condition. -/
import Derived.Test.YtkedammjdldloaaDoorQbi
import Derived.Test.YtkedammjdldloaaDoorFa
import Derived.Test.YtkedammjdldloaaDoorVbw
import Derived.Test.YtkedammjdldloaaDoorVbk
namespace Go.Proofs.YtkedammjdldloaaDoor
open Go
set_option linter.unusedVariables false
set_option linter.unusedSimpArgs false

set_option maxRecDepth 20000 in
theorem w_impl_fracFits  {f0 : Frac} {r : Bool} (h : p_impl_fracFits f0 = some r) :
    Triple Tryd.prog 34 [.agg #[.int .i64 f0.num, .int .i64 f0.den]] [] [] (fun v ch => v = .bool r ∧ ch = []) := by
  refine triple_start 16 Tryd.func34 Tryd.ntmps34 rfl rfl (fun w0 => ?_)
  unfold p_impl_fracFits at h
  refine kwp_seq ?_
  refine kwp_region ?_
  refine kk (n_box (e := [.int .i64 f0.num, .int .i64 f0.den]) 2 (fun p1_1 => ?_))
  refine kd (v_as) ?_
  refine kops_nil ?_
  refine kn_then ?_
  refine kwp_seq ?_
  refine kwp_region ?_
  refine kd (v_fb fa_39_0) ?_
  refine kd (v_ldb Tryd.isAgg3) ?_
  obtain ⟨v3, hv2, h⟩ := e_bind h
  refine kk (n_call Tryd.call53 (w_impl_isWithin hv2) ?_)
  rintro _ _ ⟨rfl, rfl⟩
  refine kd (v_mv) ?_
  refine kops_split 6 rfl (fun hb5 => ?_) (fun hb5 => ?_)
  ·
    replace h := e_t h hb5
    refine kgd hb5 (v_fb fa_39_1) ?_
    refine kgd hb5 (v_ldb Tryd.isAgg3) ?_
    refine kgd hb5 (v_cmp) ?_
    refine kd (v_pt hb5) ?_
    refine kd (v_mv) ?_
    refine kops_split 11 rfl (fun hb6 => ?_) (fun hb6 => ?_)
    ·
      replace h := e_t h hb6
      refine kgd hb6 (v_fb fa_39_1) ?_
      refine kgd hb6 (v_ldb Tryd.isAgg3) ?_
      refine kgd hb6 (v_cmp) ?_
      refine kd (v_pt hb6) ?_
      refine kd (v_as) ?_
      refine kops_nil ?_
      refine kn_then ?_
      refine kwp_ret ?_
      obtain rfl := e_some h
      refine r1 [] ?_
      exact ⟨rfl, rfl⟩
    ·
      replace h := e_f h hb6
      refine kskip hb6 ?_
      refine kskip hb6 ?_
      refine kskip hb6 ?_
      refine kd (v_pf hb6) ?_
      refine kd (v_as) ?_
      refine kops_nil ?_
      refine kn_then ?_
      refine kwp_ret ?_
      obtain rfl := e_some h
      refine r1 [] ?_
      exact ⟨rfl, rfl⟩
  ·
    replace h := e_f h hb5
    refine kskip hb5 ?_
    refine kskip hb5 ?_
    refine kskip hb5 ?_
    refine kd (v_pf hb5) ?_
    refine kd (v_mv) ?_
    refine kskip rfl ?_
    refine kskip rfl ?_
    refine kskip rfl ?_
    refine kd (v_pf rfl) ?_
    refine kd (v_as) ?_
    refine kops_nil ?_
    refine kn_then ?_
    refine kwp_ret ?_
    obtain rfl := e_some h
    refine r1 [] ?_
    exact ⟨rfl, rfl⟩

set_option maxRecDepth 20000 in
theorem w_impl_FracLess  {a0 : Frac} {b0 : Frac} {r : Bool} (h : p_impl_FracLess a0 b0 = some r) :
    Triple Tryd.prog 16 [.agg #[.int .i64 a0.num, .int .i64 a0.den], .agg #[.int .i64 b0.num, .int .i64 b0.den]] [] [] (fun v ch => v = .bool r ∧ ch = []) := by
  refine triple_start 24 Tryd.func16 Tryd.ntmps16 rfl rfl (fun w0 => ?_)
  unfold p_impl_FracLess at h
  refine kwp_seq ?_
  refine kwp_region ?_
  refine kk (n_box (e := [.int .i64 a0.num, .int .i64 a0.den]) 2 (fun p2_1 => ?_))
  refine kk (n_box (e := [.int .i64 b0.num, .int .i64 b0.den]) 2 (fun p3_2 => ?_))
  refine kd (v_as) ?_
  refine kops_nil ?_
  refine kn_then ?_
  refine kwp_seq ?_
  refine kwp_seq ?_
  refine kwp_cutE (inv := [(2, .pointer (some p2_1)), (3, .pointer (some p3_2))]) (fun (z : Bool) (y : Unit) => [(12, .bool z)]) (fun (z : Bool) (y : Unit) => [⟨.pointer (some p2_1), 2, [[.int .i64 a0.num, .int .i64 a0.den]]⟩, ⟨.pointer (some p3_2), 2, [[.int .i64 b0.num, .int .i64 b0.den]]⟩]) (fun _ _ => True) h ?_ ?_
  · intro t6 h4
    refine kwp_region ?_
    refine kd (v_ldB Tryd.isAgg39 Tryd.sizeOf39) ?_
    obtain ⟨v8, hv7, h4⟩ := e_bind h4
    refine kk (n_call Tryd.call34 (w_impl_fracFits hv7) ?_)
    rintro _ _ ⟨rfl, rfl⟩
    refine kd (v_not) ?_
    refine kd (v_mv) ?_
    refine kops_split 8 rfl (fun hb10 => ?_) (fun hb10 => ?_)
    ·
      replace h4 := e_t h4 hb10
      refine kskip hb10 ?_
      refine kskip hb10 ?_
      refine kskip hb10 ?_
      refine kd (v_pt hb10) ?_
      refine kops_nil ?_
      refine kn_then ?_
      obtain rfl := e_some h4
      exact ⟨(), hd_mk trivial⟩
    ·
      replace h4 := e_f h4 hb10
      refine kgd hb10 (v_ldB Tryd.isAgg39 Tryd.sizeOf39) ?_
      obtain ⟨v12, hv11, h4⟩ := e_bind h4
      refine kgk hb10 (n_call Tryd.call34 (w_impl_fracFits hv11) ?_)
      rintro _ _ ⟨rfl, rfl⟩
      refine kgd hb10 (v_not) ?_
      refine kd (v_pf hb10) ?_
      refine kops_nil ?_
      refine kn_then ?_
      obtain rfl := e_some h4
      exact ⟨(), hd_mk trivial⟩
  · intro x3 y15 _ h16
    refine kn_then ?_
    refine kwp_cond rfl (fun hc17 => ?_) (fun hc17 => ?_)
    ·
      replace h16 := e_t h16 hc17
      refine kwp_seq ?_
      refine kwp_region ?_
      refine kd (v_as) ?_
      refine kops_nil ?_
      refine kn_then ?_
      refine kwp_ret ?_
      refine kr_then ?_
      obtain rfl := e_some h16
      refine r1 [] ?_
      exact ⟨rfl, rfl⟩
    ·
      replace h16 := e_f h16 hc17
      refine kwp_skip ?_
      refine kn_then ?_
      refine kwp_seq ?_
      refine kwp_region ?_
      refine kd (v_fb fa_39_0) ?_
      refine kd (v_ldb Tryd.isAgg3) ?_
      refine kd (v_fb fa_39_1) ?_
      refine kd (v_ldb Tryd.isAgg3) ?_
      refine kd (v_mul) ?_
      refine kd (v_fb fa_39_0) ?_
      refine kd (v_ldb Tryd.isAgg3) ?_
      refine kd (v_fb fa_39_1) ?_
      refine kd (v_ldb Tryd.isAgg3) ?_
      refine kd (v_mul) ?_
      refine kd (v_cmp) ?_
      refine kd (v_as) ?_
      refine kops_nil ?_
      refine kn_then ?_
      refine kwp_ret ?_
      obtain rfl := e_some h16
      refine r1 [] ?_
      exact ⟨rfl, rfl⟩

set_option maxRecDepth 20000 in
theorem w_spec_FracLess  {a0 : Frac} {b0 : Frac} {r : Bool} (h : p_spec_FracLess a0 b0 = some r) :
    Triple Tryd.prog 29 [.agg #[.int .i64 a0.num, .int .i64 a0.den], .agg #[.int .i64 b0.num, .int .i64 b0.den]] [] [] (fun v ch => v = .bool r ∧ ch = []) := by
  refine triple_start 36 Tryd.func29 Tryd.ntmps29 rfl rfl (fun w0 => ?_)
  unfold p_spec_FracLess at h
  refine kwp_seq ?_
  refine kwp_region ?_
  refine kk (n_box (e := [.int .i64 a0.num, .int .i64 a0.den]) 2 (fun p2_1 => ?_))
  refine kk (n_box (e := [.int .i64 b0.num, .int .i64 b0.den]) 2 (fun p3_2 => ?_))
  refine kd (v_as) ?_
  refine kops_nil ?_
  refine kn_then ?_
  refine kwp_seq ?_
  refine kwp_region ?_
  refine kd (v_fb fa_39_0) ?_
  refine kd (v_ldb Tryd.isAgg3) ?_
  obtain ⟨v4, hv3, h⟩ := e_bind h
  refine kk (n_call Tryd.call22 (w_spec_l1In hv3) ?_)
  rintro _ _ ⟨rfl, rfl⟩
  refine kd (v_mv) ?_
  refine kops_split 8 rfl (fun hb6 => ?_) (fun hb6 => ?_)
  ·
    replace h := e_t h hb6
    refine kgd hb6 (v_fb fa_39_0) ?_
    refine kgd hb6 (v_ldb Tryd.isAgg3) ?_
    obtain ⟨v8, hv7, h⟩ := e_bind h
    refine kgk hb6 (n_call Tryd.call22 (w_spec_l1In hv7) ?_)
    rintro _ _ ⟨rfl, rfl⟩
    refine kd (v_pt hb6) ?_
    refine kd (v_mv) ?_
    refine kops_split 13 rfl (fun hb10 => ?_) (fun hb10 => ?_)
    ·
      replace h := e_t h hb10
      refine kgd hb10 (v_fb fa_39_1) ?_
      refine kgd hb10 (v_ldb Tryd.isAgg3) ?_
      obtain ⟨v12, hv11, h⟩ := e_bind h
      refine kgk hb10 (n_call Tryd.call22 (w_spec_l1In hv11) ?_)
      rintro _ _ ⟨rfl, rfl⟩
      refine kd (v_pt hb10) ?_
      refine kd (v_mv) ?_
      refine kops_split 18 rfl (fun hb14 => ?_) (fun hb14 => ?_)
      ·
        replace h := e_t h hb14
        refine kgd hb14 (v_fb fa_39_1) ?_
        refine kgd hb14 (v_ldb Tryd.isAgg3) ?_
        obtain ⟨v16, hv15, h⟩ := e_bind h
        refine kgk hb14 (n_call Tryd.call22 (w_spec_l1In hv15) ?_)
        rintro _ _ ⟨rfl, rfl⟩
        refine kd (v_pt hb14) ?_
        refine kd (v_mv) ?_
        refine kops_split 23 rfl (fun hb18 => ?_) (fun hb18 => ?_)
        ·
          replace h := e_t h hb18
          refine kgd hb18 (v_fb fa_39_0) ?_
          refine kgd hb18 (v_ldb Tryd.isAgg3) ?_
          refine kgd hb18 (v_fb fa_39_1) ?_
          refine kgd hb18 (v_ldb Tryd.isAgg3) ?_
          refine kgd hb18 (v_mul) ?_
          refine kgd hb18 (v_fb fa_39_0) ?_
          refine kgd hb18 (v_ldb Tryd.isAgg3) ?_
          refine kgd hb18 (v_fb fa_39_1) ?_
          refine kgd hb18 (v_ldb Tryd.isAgg3) ?_
          refine kgd hb18 (v_mul) ?_
          refine kgd hb18 (v_cmp) ?_
          refine kd (v_pt hb18) ?_
          refine kd (v_as) ?_
          refine kops_nil ?_
          refine kn_then ?_
          refine kwp_ret ?_
          obtain rfl := e_some h
          refine r1 [] ?_
          exact ⟨rfl, rfl⟩
        ·
          replace h := e_f h hb18
          refine kskip hb18 ?_
          refine kskip hb18 ?_
          refine kskip hb18 ?_
          refine kskip hb18 ?_
          refine kskip hb18 ?_
          refine kskip hb18 ?_
          refine kskip hb18 ?_
          refine kskip hb18 ?_
          refine kskip hb18 ?_
          refine kskip hb18 ?_
          refine kskip hb18 ?_
          refine kd (v_pf hb18) ?_
          refine kd (v_as) ?_
          refine kops_nil ?_
          refine kn_then ?_
          refine kwp_ret ?_
          obtain rfl := e_some h
          refine r1 [] ?_
          exact ⟨rfl, rfl⟩
      ·
        replace h := e_f h hb14
        refine kskip hb14 ?_
        refine kskip hb14 ?_
        refine kskip hb14 ?_
        refine kd (v_pf hb14) ?_
        refine kd (v_mv) ?_
        refine kskip rfl ?_
        refine kskip rfl ?_
        refine kskip rfl ?_
        refine kskip rfl ?_
        refine kskip rfl ?_
        refine kskip rfl ?_
        refine kskip rfl ?_
        refine kskip rfl ?_
        refine kskip rfl ?_
        refine kskip rfl ?_
        refine kskip rfl ?_
        refine kd (v_pf rfl) ?_
        refine kd (v_as) ?_
        refine kops_nil ?_
        refine kn_then ?_
        refine kwp_ret ?_
        obtain rfl := e_some h
        refine r1 [] ?_
        exact ⟨rfl, rfl⟩
    ·
      replace h := e_f h hb10
      refine kskip hb10 ?_
      refine kskip hb10 ?_
      refine kskip hb10 ?_
      refine kd (v_pf hb10) ?_
      refine kd (v_mv) ?_
      refine kskip rfl ?_
      refine kskip rfl ?_
      refine kskip rfl ?_
      refine kd (v_pf rfl) ?_
      refine kd (v_mv) ?_
      refine kskip rfl ?_
      refine kskip rfl ?_
      refine kskip rfl ?_
      refine kskip rfl ?_
      refine kskip rfl ?_
      refine kskip rfl ?_
      refine kskip rfl ?_
      refine kskip rfl ?_
      refine kskip rfl ?_
      refine kskip rfl ?_
      refine kskip rfl ?_
      refine kd (v_pf rfl) ?_
      refine kd (v_as) ?_
      refine kops_nil ?_
      refine kn_then ?_
      refine kwp_ret ?_
      obtain rfl := e_some h
      refine r1 [] ?_
      exact ⟨rfl, rfl⟩
  ·
    replace h := e_f h hb6
    refine kskip hb6 ?_
    refine kskip hb6 ?_
    refine kskip hb6 ?_
    refine kd (v_pf hb6) ?_
    refine kd (v_mv) ?_
    refine kskip rfl ?_
    refine kskip rfl ?_
    refine kskip rfl ?_
    refine kd (v_pf rfl) ?_
    refine kd (v_mv) ?_
    refine kskip rfl ?_
    refine kskip rfl ?_
    refine kskip rfl ?_
    refine kd (v_pf rfl) ?_
    refine kd (v_mv) ?_
    refine kskip rfl ?_
    refine kskip rfl ?_
    refine kskip rfl ?_
    refine kskip rfl ?_
    refine kskip rfl ?_
    refine kskip rfl ?_
    refine kskip rfl ?_
    refine kskip rfl ?_
    refine kskip rfl ?_
    refine kskip rfl ?_
    refine kskip rfl ?_
    refine kd (v_pf rfl) ?_
    refine kd (v_as) ?_
    refine kops_nil ?_
    refine kn_then ?_
    refine kwp_ret ?_
    obtain rfl := e_some h
    refine r1 [] ?_
    exact ⟨rfl, rfl⟩

set_option maxRecDepth 20000 in
theorem w_impl_Widen (m01a : Option Addr) (m01n : Nat) (m01c : Nat) {m0 : Mine} {index0 : Int} {r : Mine × Bool} (h : p_impl_Widen m0 index0 = some r) :
    Triple Tryd.prog 14 [.agg #[.int .i64 m0.p, .slice m01a m01n m01c], .int .i64 index0] [⟨.slice m01a m01n m01c, 3, m0.aw.map encAirway⟩] [] (fun v ch => ∃ (w01a : Option Addr) (w01c : Nat), v = .tuple #[.agg #[.int .i64 r.1.p, .slice w01a r.1.aw.length w01c], .bool r.2] ∧ ch = [⟨.slice w01a r.1.aw.length w01c, 3, r.1.aw.map encAirway⟩]) := by
  refine triple_start 44 Tryd.func14 Tryd.ntmps14 rfl rfl (fun w0 => ?_)
  refine k_len (c := m01c) (fun hl1 => ?_)
  subst hl1
  unfold p_impl_Widen at h
  refine kwp_seq ?_
  refine kwp_region ?_
  refine kk (n_box (e := [.int .i64 m0.p, .slice m01a m0.aw.length m01c]) 2 (fun p2_2 => ?_))
  refine kops_nilchunk 3 (by decide) ?_
  refine kk (n_alloc (e := [.int .i64 0, .slice none 0 0]) 2 Tryd.zeroValue32 (fun p4_3 => ?_))
  refine kd (v_as) ?_
  refine kops_nil ?_
  refine kn_then ?_
  refine kwp_seq ?_
  refine kwp_seq ?_
  refine kwp_cutE (inv := [(1, .int .i64 index0), (2, .pointer (some p2_2)), (4, .pointer (some p4_3))]) (fun (z : Bool) (y : Unit) => [(26, .bool z)]) (fun (z : Bool) (y : Unit) => [⟨.pointer (some p2_2), 2, [[.int .i64 m0.p, .slice m01a m0.aw.length m01c]]⟩, ⟨.pointer (some p4_3), 2, [[.int .i64 0, .slice none 0 0]]⟩, ⟨.slice none 0 0, 3, ([] : List Airway).map encAirway⟩]) (fun _ _ => True) h ?_ ?_
  · intro t7 h5
    refine kwp_region ?_
    refine kd (v_ldB Tryd.isAgg32 Tryd.sizeOf32) ?_
    obtain ⟨v9, hv8, h5⟩ := e_bind h5
    refine kk (n_call Tryd.call30 (w_impl_MineValid m01a m0.aw.length m01c hv8) ?_)
    rintro _ _ ⟨rfl, rfl⟩
    refine kd (v_not) ?_
    refine kd (v_mv) ?_
    refine kops_split 10 rfl (fun hb11 => ?_) (fun hb11 => ?_)
    ·
      replace h5 := e_t h5 hb11
      refine kskip hb11 ?_
      refine kskip hb11 ?_
      refine kskip hb11 ?_
      refine kskip hb11 ?_
      refine kskip hb11 ?_
      refine kskip hb11 ?_
      refine kd (v_pt hb11) ?_
      refine kd (v_mv) ?_
      refine kskip rfl ?_
      refine kskip rfl ?_
      refine kskip rfl ?_
      refine kskip rfl ?_
      refine kskip rfl ?_
      refine kskip rfl ?_
      refine kskip rfl ?_
      refine kd (v_pt rfl) ?_
      refine kops_nil ?_
      refine kn_then ?_
      obtain rfl := e_some h5
      exact ⟨(), hd_mk trivial⟩
    ·
      replace h5 := e_f h5 hb11
      refine kgd hb11 (v_mv) ?_
      refine kgd hb11 (v_fb fa_32_1) ?_
      refine kgd hb11 (v_ldb Tryd.isAgg30) ?_
      refine kgd hb11 (v_len Tryd.runUnderlying30) ?_
      obtain ⟨v13, hv12, h5⟩ := e_bind h5
      refine kgk hb11 (n_call Tryd.call26 (w_impl_isIndex hv12) ?_)
      rintro _ _ ⟨rfl, rfl⟩
      refine kgd hb11 (v_not) ?_
      refine kd (v_pf hb11) ?_
      refine kd (v_mv) ?_
      refine kops_split 18 rfl (fun hb15 => ?_) (fun hb15 => ?_)
      ·
        replace h5 := e_t h5 hb15
        refine kskip hb15 ?_
        refine kskip hb15 ?_
        refine kskip hb15 ?_
        refine kskip hb15 ?_
        refine kskip hb15 ?_
        refine kskip hb15 ?_
        refine kskip hb15 ?_
        refine kd (v_pt hb15) ?_
        refine kops_nil ?_
        refine kn_then ?_
        obtain rfl := e_some h5
        exact ⟨(), hd_mk trivial⟩
      ·
        replace h5 := e_f h5 hb15
        refine kgd hb15 (v_fb fa_32_1) ?_
        refine kgd hb15 (v_ldb Tryd.isAgg30) ?_
        refine kgd hb15 (v_mv) ?_
        obtain ⟨j16, ej16, nj16, h5⟩ := e_idx h5
        refine kgd hb15 (v_ia ej16 nj16 Tryd.runUnderlying30 Tryd.sizeOf57) ?_
        refine kgd hb15 (v_fa nj16 fa_57_2) ?_
        refine kgd hb15 (v_ldf nj16 Tryd.isAgg3) ?_
        refine kgd hb15 (v_cmp) ?_
        refine kd (v_pf hb15) ?_
        refine kops_nil ?_
        refine kn_then ?_
        obtain rfl := e_some h5
        exact ⟨(), hd_mk trivial⟩
  · intro x4 y18 _ h19
    refine kn_then ?_
    refine kwp_cond rfl (fun hc20 => ?_) (fun hc20 => ?_)
    ·
      replace h19 := e_t h19 hc20
      refine kwp_seq ?_
      refine kwp_region ?_
      refine kops_nilchunk 3 (by decide) ?_
      refine kd (v_bd [] [.int .i64 0, .slice none 0 0] Tryd.zeroValue32 Tryd.runUnderlying32 pl_32) ?_
      refine kk (s_B (e' := [.int .i64 0, .slice none 0 0]) Tryd.sizeOf32 ?_)
      refine kd (v_as) ?_
      refine kops_nil ?_
      refine kn_then ?_
      refine kwp_ret ?_
      refine kr_then ?_
      obtain rfl := e_some h19
      refine rc1 Tryd.isAgg32 Tryd.sizeOf32 [⟨.slice none 0 0, 3, ([] : List Airway).map encAirway⟩] ?_
      exact ⟨none, 0, rfl, rfl⟩
    ·
      replace h19 := e_f h19 hc20
      refine kwp_skip ?_
      refine kn_then ?_
      refine kwp_seq ?_
      refine kwp_nil 3 (by decide) ?_
      obtain ⟨v22, hv21, h19⟩ := e_bind h19
      refine kwp_cutS (inv := [(1, .int .i64 index0), (4, .pointer (some p4_3))]) (fun (y : Option Addr × Nat × Addr) => [(6, .pointer (some y.2.2))]) (fun (y : Option Addr × Nat × Addr) => [⟨.pointer (some p4_3), 2, [[.int .i64 0, .slice none 0 0]]⟩, ⟨.slice none 0 0, 3, ([] : List Airway).map encAirway⟩, ⟨.pointer (some y.2.2), 2, [[.int .i64 m0.p, .slice y.1 v22.length y.2.1]]⟩, ⟨.slice y.1 v22.length y.2.1, 3, v22.map encAirway⟩]) (fun (y : Option Addr × Nat × Addr) => True) ?_ ?_
      ·
        refine kwp_tree (.quiet 0 (.quiet 1 (.quiet 2 (.quiet 3 (.two 4 (.quiet 5 (.one 6 (.one 7 .stop))) 6 (.one 4 (.quiet 5 (.one 7 .stop)))))))) [] [⟨.pointer (some p2_2), 2, [[.int .i64 m0.p, .slice m01a m0.aw.length m01c]]⟩] drawMixed (by kernel_rfl) nopan (by (repeat (first | exact Sub.refl _ | exact Sub.nil _ | refine Sub.chunk (by repeat (first | exact Pick.here | apply Pick.there | apply Pick.seg)) (by rfl) ?_ | refine Sub.seg (by repeat (first | exact PickSeg.here | exact PickSeg.all | apply PickSeg.there | apply PickSeg.seg)) ?_ | exact Sub.seg0 (by repeat (first | exact PickSeg.here | exact PickSeg.all | apply PickSeg.there | apply PickSeg.seg)) | apply Sub.assoc))) ?_
        refine kt_d rfl rfl rfl (v_fb fa_32_0) ?_
        refine kt_d rfl rfl rfl (v_ldb Tryd.isAgg3) ?_
        refine kt_d rfl rfl rfl (v_fb fa_32_1) ?_
        refine kt_d rfl rfl rfl (v_ldb Tryd.isAgg30) ?_
        refine kt_two ?_ ?_
        ·
          refine kl_k rfl rfl (n_call Tryd.call31 (w_slices_Clone_impl_Airway_impl_Airway m01a m0.aw.length m01c hv21) ?_)
          rintro _ _ ⟨q23a, q23c, rfl, rfl⟩
          refine ⟨.inl (by (repeat (first | exact Sub.refl _ | exact Sub.nil _ | refine Sub.chunk (by repeat (first | exact Pick.here | apply Pick.there | apply Pick.seg)) (by rfl) ?_ | refine Sub.seg (by repeat (first | exact PickSeg.here | exact PickSeg.all | apply PickSeg.there | apply PickSeg.seg)) ?_ | exact Sub.seg0 (by repeat (first | exact PickSeg.here | exact PickSeg.all | apply PickSeg.there | apply PickSeg.seg)) | apply Sub.assoc))), ?_⟩
          refine kt_d rfl rfl rfl (v_bd [(0, _), (1, _)] [_, _] Tryd.zeroValue32 Tryd.runUnderlying32 pl_32) ?_
          refine kt_one ?_
          refine kl_k rfl rfl (n_alloc (e := [.int .i64 0, .slice none 0 0]) 2 Tryd.zeroValue32 (fun p6_24 => ?_))
          refine ⟨.inl (by (repeat (first | exact Sub.refl _ | exact Sub.nil _ | refine Sub.chunk (by repeat (first | exact Pick.here | apply Pick.there | apply Pick.seg)) (by rfl) ?_ | refine Sub.seg (by repeat (first | exact PickSeg.here | exact PickSeg.all | apply PickSeg.there | apply PickSeg.seg)) ?_ | exact Sub.seg0 (by repeat (first | exact PickSeg.here | exact PickSeg.all | apply PickSeg.there | apply PickSeg.seg)) | apply Sub.assoc))), ?_⟩
          refine kt_one ?_
          refine kl_k rfl rfl (s_B (e' := [.int .i64 m0.p, .slice q23a v22.length q23c]) Tryd.sizeOf32 ?_)
          refine ⟨.inl (by (repeat (first | exact Sub.refl _ | exact Sub.nil _ | refine Sub.chunk (by repeat (first | exact Pick.here | apply Pick.there | apply Pick.seg)) (by rfl) ?_ | refine Sub.seg (by repeat (first | exact PickSeg.here | exact PickSeg.all | apply PickSeg.there | apply PickSeg.seg)) ?_ | exact Sub.seg0 (by repeat (first | exact PickSeg.here | exact PickSeg.all | apply PickSeg.there | apply PickSeg.seg)) | apply Sub.assoc))), ?_⟩
          refine kt_nil ?_
          refine kn_then ?_
          exact ⟨(q23a, q23c, p6_24), hd_mk trivial⟩
        ·
          refine kl_k rfl rfl (n_alloc (e := [.int .i64 0, .slice none 0 0]) 2 Tryd.zeroValue32 (fun p6_24 => ?_))
          refine ⟨.inl (by (repeat (first | exact Sub.refl _ | exact Sub.nil _ | refine Sub.chunk (by repeat (first | exact Pick.here | apply Pick.there | apply Pick.seg)) (by rfl) ?_ | refine Sub.seg (by repeat (first | exact PickSeg.here | exact PickSeg.all | apply PickSeg.there | apply PickSeg.seg)) ?_ | exact Sub.seg0 (by repeat (first | exact PickSeg.here | exact PickSeg.all | apply PickSeg.there | apply PickSeg.seg)) | apply Sub.assoc))), ?_⟩
          refine kt_one ?_
          refine kl_k rfl rfl (n_call Tryd.call31 (w_slices_Clone_impl_Airway_impl_Airway m01a m0.aw.length m01c hv21) ?_)
          rintro _ _ ⟨q23a, q23c, rfl, rfl⟩
          refine ⟨.inl (by (repeat (first | exact Sub.refl _ | exact Sub.nil _ | refine Sub.chunk (by repeat (first | exact Pick.here | apply Pick.there | apply Pick.seg)) (by rfl) ?_ | refine Sub.seg (by repeat (first | exact PickSeg.here | exact PickSeg.all | apply PickSeg.there | apply PickSeg.seg)) ?_ | exact Sub.seg0 (by repeat (first | exact PickSeg.here | exact PickSeg.all | apply PickSeg.there | apply PickSeg.seg)) | apply Sub.assoc))), ?_⟩
          refine kt_d rfl rfl rfl (v_bd [(0, _), (1, _)] [_, _] Tryd.zeroValue32 Tryd.runUnderlying32 pl_32) ?_
          refine kt_one ?_
          refine kl_k rfl rfl (s_B (e' := [.int .i64 m0.p, .slice q23a v22.length q23c]) Tryd.sizeOf32 ?_)
          refine ⟨.inl (by (repeat (first | exact Sub.refl _ | exact Sub.nil _ | refine Sub.chunk (by repeat (first | exact Pick.here | apply Pick.there | apply Pick.seg)) (by rfl) ?_ | refine Sub.seg (by repeat (first | exact PickSeg.here | exact PickSeg.all | apply PickSeg.there | apply PickSeg.seg)) ?_ | exact Sub.seg0 (by repeat (first | exact PickSeg.here | exact PickSeg.all | apply PickSeg.there | apply PickSeg.seg)) | apply Sub.assoc))), ?_⟩
          refine kt_nil ?_
          refine kn_then ?_
          exact ⟨(q23a, q23c, p6_24), hd_mk trivial⟩
      · intro y25 _
        obtain ⟨q23a, q23c, p6_24⟩ := y25
        refine kn_then ?_
        refine kwp_seq ?_
        refine kwp_region ?_
        refine kd (v_fb fa_32_1) ?_
        refine kd (v_ldb Tryd.isAgg30) ?_
        refine kd (v_mv) ?_
        obtain ⟨j26, ej26, nj26, h19⟩ := e_idx h19
        refine kd (v_ia ej26 nj26 Tryd.runUnderlying30 Tryd.sizeOf57) ?_
        refine kd (v_fa nj26 fa_57_2) ?_
        refine kd (v_ldf nj26 Tryd.isAgg3) ?_
        refine kd (v_add) ?_
        refine kd (v_ia ej26 nj26 Tryd.runUnderlying30 Tryd.sizeOf57) ?_
        refine kd (v_fa nj26 fa_57_2) ?_
        refine kk (s_f { gx v22 j26 with w := w64 (((gx v22 j26).w) + 1) } nj26 Tryd.sizeOf3 ?_)
        refine kops_nil ?_
        refine kn_then ?_
        refine kwp_seq ?_
        refine kwp_region ?_
        refine kd (v_ldB Tryd.isAgg32 Tryd.sizeOf32) ?_
        refine kk (s_B (e' := [.int .i64 m0.p, .slice q23a v22.length q23c]) Tryd.sizeOf32 ?_)
        refine kd (v_as) ?_
        refine kops_nil ?_
        refine kn_then ?_
        refine k_len (c := q23c) (fun hl27 => ?_)
        refine kwp_ret ?_
        obtain rfl := e_some h19
        refine rc1 Tryd.isAgg32 Tryd.sizeOf32 [⟨.slice q23a v22.length q23c, 3, (v22.set j26 { gx v22 j26 with w := w64 (((gx v22 j26).w) + 1) }).map encAirway⟩] ?_
        exact ⟨q23a, q23c, by first | rfl | (rw [← hl27] <;> rfl) | ((try dsimp only); rw [← hl27] <;> rfl) | (simp; done), by first | rfl | (rw [← hl27] <;> rfl) | ((try dsimp only); rw [← hl27] <;> rfl) | (simp; done)⟩

set_option maxRecDepth 20000 in
set_option maxHeartbeats 2000000 in
theorem w_spec_Widen (m01a : Option Addr) (m01n : Nat) (m01c : Nat) {m0 : Mine} {index0 : Int} {r : Mine × Bool} (h : p_spec_Widen m0 index0 = some r) :
    Triple Tryd.prog 27 [.agg #[.int .i64 m0.p, .slice m01a m01n m01c], .int .i64 index0] [⟨.slice m01a m01n m01c, 3, m0.aw.map encAirway⟩] [] (fun v ch => ∃ (w01a : Option Addr) (w01c : Nat), v = .tuple #[.agg #[.int .i64 r.1.p, .slice w01a r.1.aw.length w01c], .bool r.2] ∧ ch = [⟨.slice w01a r.1.aw.length w01c, 3, r.1.aw.map encAirway⟩]) := by
  refine triple_start 49 Tryd.func27 Tryd.ntmps27 rfl rfl (fun w0 => ?_)
  refine k_len (c := m01c) (fun hl1 => ?_)
  subst hl1
  unfold p_spec_Widen at h
  refine kwp_seq ?_
  refine kwp_region ?_
  refine kk (n_box (e := [.int .i64 m0.p, .slice m01a m0.aw.length m01c]) 2 (fun p2_2 => ?_))
  refine kops_nilchunk 3 (by decide) ?_
  refine kk (n_alloc (e := [.int .i64 0, .slice none 0 0]) 2 Tryd.zeroValue32 (fun p4_3 => ?_))
  refine kd (v_as) ?_
  refine kops_nil ?_
  refine kn_then ?_
  refine kwp_seq ?_
  refine kwp_seq ?_
  refine kwp_cutE (inv := [(1, .int .i64 index0), (2, .pointer (some p2_2)), (4, .pointer (some p4_3))]) (fun (z : Bool) (y : Unit) => [(27, .bool z)]) (fun (z : Bool) (y : Unit) => [⟨.pointer (some p2_2), 2, [[.int .i64 m0.p, .slice m01a m0.aw.length m01c]]⟩, ⟨.pointer (some p4_3), 2, [[.int .i64 0, .slice none 0 0]]⟩, ⟨.slice none 0 0, 3, ([] : List Airway).map encAirway⟩]) (fun _ _ => True) h ?_ ?_
  · intro t7 h5
    refine kwp_region ?_
    refine kd (v_ldB Tryd.isAgg32 Tryd.sizeOf32) ?_
    obtain ⟨v9, hv8, h5⟩ := e_bind h5
    refine kk (n_call Tryd.call47 (w_spec_MineValid m01a m0.aw.length m01c hv8) ?_)
    rintro _ _ ⟨rfl, rfl⟩
    refine kd (v_not) ?_
    refine kd (v_mv) ?_
    refine kops_split 10 rfl (fun hb11 => ?_) (fun hb11 => ?_)
    ·
      replace h5 := e_t h5 hb11
      refine kskip hb11 ?_
      refine kskip hb11 ?_
      refine kskip hb11 ?_
      refine kskip hb11 ?_
      refine kskip hb11 ?_
      refine kskip hb11 ?_
      refine kskip hb11 ?_
      refine kd (v_pt hb11) ?_
      refine kd (v_mv) ?_
      refine kskip rfl ?_
      refine kskip rfl ?_
      refine kskip rfl ?_
      refine kskip rfl ?_
      refine kskip rfl ?_
      refine kskip rfl ?_
      refine kskip rfl ?_
      refine kd (v_pt rfl) ?_
      refine kops_nil ?_
      refine kn_then ?_
      obtain rfl := e_some h5
      exact ⟨(), hd_mk trivial⟩
    ·
      replace h5 := e_f h5 hb11
      refine kgd hb11 (v_mv) ?_
      refine kgd hb11 (v_fb fa_32_1) ?_
      refine kgd hb11 (v_ldb Tryd.isAgg30) ?_
      refine kgd hb11 (v_len Tryd.runUnderlying30) ?_
      refine kgd hb11 (v_sub) ?_
      obtain ⟨v13, hv12, h5⟩ := e_bind h5
      refine kgk hb11 (n_call Tryd.call22 (w_spec_l1In hv12) ?_)
      rintro _ _ ⟨rfl, rfl⟩
      refine kgd hb11 (v_not) ?_
      refine kd (v_pf hb11) ?_
      refine kd (v_mv) ?_
      refine kops_split 19 rfl (fun hb15 => ?_) (fun hb15 => ?_)
      ·
        replace h5 := e_t h5 hb15
        refine kskip hb15 ?_
        refine kskip hb15 ?_
        refine kskip hb15 ?_
        refine kskip hb15 ?_
        refine kskip hb15 ?_
        refine kskip hb15 ?_
        refine kskip hb15 ?_
        refine kd (v_pt hb15) ?_
        refine kops_nil ?_
        refine kn_then ?_
        obtain rfl := e_some h5
        exact ⟨(), hd_mk trivial⟩
      ·
        replace h5 := e_f h5 hb15
        refine kgd hb15 (v_fb fa_32_1) ?_
        refine kgd hb15 (v_ldb Tryd.isAgg30) ?_
        refine kgd hb15 (v_mv) ?_
        obtain ⟨j16, ej16, nj16, h5⟩ := e_idx h5
        refine kgd hb15 (v_ia ej16 nj16 Tryd.runUnderlying30 Tryd.sizeOf57) ?_
        refine kgd hb15 (v_fa nj16 fa_57_2) ?_
        refine kgd hb15 (v_ldf nj16 Tryd.isAgg3) ?_
        refine kgd hb15 (v_cmp) ?_
        refine kd (v_pf hb15) ?_
        refine kops_nil ?_
        refine kn_then ?_
        obtain rfl := e_some h5
        exact ⟨(), hd_mk trivial⟩
  · intro x4 y18 _ h19
    refine kn_then ?_
    refine kwp_cond rfl (fun hc20 => ?_) (fun hc20 => ?_)
    ·
      replace h19 := e_t h19 hc20
      refine kwp_seq ?_
      refine kwp_region ?_
      refine kops_nilchunk 3 (by decide) ?_
      refine kd (v_bd [] [.int .i64 0, .slice none 0 0] Tryd.zeroValue32 Tryd.runUnderlying32 pl_32) ?_
      refine kk (s_B (e' := [.int .i64 0, .slice none 0 0]) Tryd.sizeOf32 ?_)
      refine kd (v_as) ?_
      refine kops_nil ?_
      refine kn_then ?_
      refine kwp_ret ?_
      refine kr_then ?_
      obtain rfl := e_some h19
      refine rc1 Tryd.isAgg32 Tryd.sizeOf32 [⟨.slice none 0 0, 3, ([] : List Airway).map encAirway⟩] ?_
      exact ⟨none, 0, rfl, rfl⟩
    ·
      replace h19 := e_f h19 hc20
      refine kwp_skip ?_
      refine kn_then ?_
      refine kwp_seq ?_
      refine kwp_nil 3 (by decide) ?_
      obtain ⟨hz22, h19⟩ := e_need h19
      refine kwp_cutS (inv := [(1, .int .i64 index0), (4, .pointer (some p4_3))]) (fun (y : Option Addr × Nat × Addr) => [(6, .pointer (some y.2.2))]) (fun (y : Option Addr × Nat × Addr) => [⟨.pointer (some p4_3), 2, [[.int .i64 0, .slice none 0 0]]⟩, ⟨.slice none 0 0, 3, ([] : List Airway).map encAirway⟩, ⟨.pointer (some y.2.2), 2, [[.int .i64 m0.p, .slice y.1 ((([] : List Airway) ++ m0.aw).length) y.2.1]]⟩, ⟨.slice y.1 ((([] : List Airway) ++ m0.aw).length) y.2.1, 3, (([] : List Airway) ++ m0.aw).map encAirway⟩]) (fun (y : Option Addr × Nat × Addr) => True) ?_ ?_
      ·
        refine kwp_tree (.quiet 0 (.quiet 1 (.quiet 3 (.quiet 4 (.two 2 (.two 5 (.quiet 6 (.one 7 (.one 8 .stop))) 7 (.one 5 (.quiet 6 (.one 8 .stop)))) 7 (.one 2 (.one 5 (.quiet 6 (.one 8 .stop))))))))) [] [⟨.pointer (some p2_2), 2, [[.int .i64 m0.p, .slice m01a m0.aw.length m01c]]⟩] drawMixed (by kernel_rfl) nopan (by (repeat (first | exact Sub.refl _ | exact Sub.nil _ | refine Sub.chunk (by repeat (first | exact Pick.here | apply Pick.there | apply Pick.seg)) (by rfl) ?_ | refine Sub.seg (by repeat (first | exact PickSeg.here | exact PickSeg.all | apply PickSeg.there | apply PickSeg.seg)) ?_ | exact Sub.seg0 (by repeat (first | exact PickSeg.here | exact PickSeg.all | apply PickSeg.there | apply PickSeg.seg)) | apply Sub.assoc))) ?_
        refine kt_d rfl rfl rfl (v_fb fa_32_0) ?_
        refine kt_d rfl rfl rfl (v_ldb Tryd.isAgg3) ?_
        refine kt_d rfl rfl rfl (v_fb fa_32_1) ?_
        refine kt_d rfl rfl rfl (v_ldb Tryd.isAgg30) ?_
        refine kt_two ?_ ?_
        ·
          refine kl_k rfl rfl (n_lit (enc := encAirway) [] ([] : List Airway) Tryd.runUnderlying30 Tryd.sizeOf57 Tryd.zeroValue57 (fun a21 => ?_))
          refine ⟨.inl (by (repeat (first | exact Sub.refl _ | exact Sub.nil _ | refine Sub.chunk (by repeat (first | exact Pick.here | apply Pick.there | apply Pick.seg)) (by rfl) ?_ | refine Sub.seg (by repeat (first | exact PickSeg.here | exact PickSeg.all | apply PickSeg.there | apply PickSeg.seg)) ?_ | exact Sub.seg0 (by repeat (first | exact PickSeg.here | exact PickSeg.all | apply PickSeg.there | apply PickSeg.seg)) | apply Sub.assoc))), ?_⟩
          refine kt_two ?_ ?_
          ·
            refine kl_k rfl rfl (n_app (enc := encAirway) ok_encAirway hz22 Tryd.underlying30 Tryd.type57 (by decide) (fun a23 c24 => ?_))
            refine ⟨.inl (by (repeat (first | exact Sub.refl _ | exact Sub.nil _ | refine Sub.chunk (by repeat (first | exact Pick.here | apply Pick.there | apply Pick.seg)) (by rfl) ?_ | refine Sub.seg (by repeat (first | exact PickSeg.here | exact PickSeg.all | apply PickSeg.there | apply PickSeg.seg)) ?_ | exact Sub.seg0 (by repeat (first | exact PickSeg.here | exact PickSeg.all | apply PickSeg.there | apply PickSeg.seg)) | apply Sub.assoc))), ?_⟩
            refine kt_d rfl rfl rfl (v_bd [(0, _), (1, _)] [_, _] Tryd.zeroValue32 Tryd.runUnderlying32 pl_32) ?_
            refine kt_one ?_
            refine kl_k rfl rfl (n_alloc (e := [.int .i64 0, .slice none 0 0]) 2 Tryd.zeroValue32 (fun p6_25 => ?_))
            refine ⟨.inl (by (repeat (first | exact Sub.refl _ | exact Sub.nil _ | refine Sub.chunk (by repeat (first | exact Pick.here | apply Pick.there | apply Pick.seg)) (by rfl) ?_ | refine Sub.seg (by repeat (first | exact PickSeg.here | exact PickSeg.all | apply PickSeg.there | apply PickSeg.seg)) ?_ | exact Sub.seg0 (by repeat (first | exact PickSeg.here | exact PickSeg.all | apply PickSeg.there | apply PickSeg.seg)) | apply Sub.assoc))), ?_⟩
            refine kt_one ?_
            refine kl_k rfl rfl (s_B (e' := [.int .i64 m0.p, .slice a23 ((([] : List Airway) ++ m0.aw).length) c24]) Tryd.sizeOf32 ?_)
            refine ⟨.inl (by (repeat (first | exact Sub.refl _ | exact Sub.nil _ | refine Sub.chunk (by repeat (first | exact Pick.here | apply Pick.there | apply Pick.seg)) (by rfl) ?_ | refine Sub.seg (by repeat (first | exact PickSeg.here | exact PickSeg.all | apply PickSeg.there | apply PickSeg.seg)) ?_ | exact Sub.seg0 (by repeat (first | exact PickSeg.here | exact PickSeg.all | apply PickSeg.there | apply PickSeg.seg)) | apply Sub.assoc))), ?_⟩
            refine kt_nil ?_
            refine kn_then ?_
            exact ⟨(a23, c24, p6_25), hd_mk trivial⟩
          ·
            refine kl_k rfl rfl (n_alloc (e := [.int .i64 0, .slice none 0 0]) 2 Tryd.zeroValue32 (fun p6_25 => ?_))
            refine ⟨.inl (by (repeat (first | exact Sub.refl _ | exact Sub.nil _ | refine Sub.chunk (by repeat (first | exact Pick.here | apply Pick.there | apply Pick.seg)) (by rfl) ?_ | refine Sub.seg (by repeat (first | exact PickSeg.here | exact PickSeg.all | apply PickSeg.there | apply PickSeg.seg)) ?_ | exact Sub.seg0 (by repeat (first | exact PickSeg.here | exact PickSeg.all | apply PickSeg.there | apply PickSeg.seg)) | apply Sub.assoc))), ?_⟩
            refine kt_one ?_
            refine kl_k rfl rfl (n_app (enc := encAirway) ok_encAirway hz22 Tryd.underlying30 Tryd.type57 (by decide) (fun a23 c24 => ?_))
            refine ⟨.inl (by (repeat (first | exact Sub.refl _ | exact Sub.nil _ | refine Sub.chunk (by repeat (first | exact Pick.here | apply Pick.there | apply Pick.seg)) (by rfl) ?_ | refine Sub.seg (by repeat (first | exact PickSeg.here | exact PickSeg.all | apply PickSeg.there | apply PickSeg.seg)) ?_ | exact Sub.seg0 (by repeat (first | exact PickSeg.here | exact PickSeg.all | apply PickSeg.there | apply PickSeg.seg)) | apply Sub.assoc))), ?_⟩
            refine kt_d rfl rfl rfl (v_bd [(0, _), (1, _)] [_, _] Tryd.zeroValue32 Tryd.runUnderlying32 pl_32) ?_
            refine kt_one ?_
            refine kl_k rfl rfl (s_B (e' := [.int .i64 m0.p, .slice a23 ((([] : List Airway) ++ m0.aw).length) c24]) Tryd.sizeOf32 ?_)
            refine ⟨.inl (by (repeat (first | exact Sub.refl _ | exact Sub.nil _ | refine Sub.chunk (by repeat (first | exact Pick.here | apply Pick.there | apply Pick.seg)) (by rfl) ?_ | refine Sub.seg (by repeat (first | exact PickSeg.here | exact PickSeg.all | apply PickSeg.there | apply PickSeg.seg)) ?_ | exact Sub.seg0 (by repeat (first | exact PickSeg.here | exact PickSeg.all | apply PickSeg.there | apply PickSeg.seg)) | apply Sub.assoc))), ?_⟩
            refine kt_nil ?_
            refine kn_then ?_
            exact ⟨(a23, c24, p6_25), hd_mk trivial⟩
        ·
          refine kl_k rfl rfl (n_alloc (e := [.int .i64 0, .slice none 0 0]) 2 Tryd.zeroValue32 (fun p6_25 => ?_))
          refine ⟨.inl (by (repeat (first | exact Sub.refl _ | exact Sub.nil _ | refine Sub.chunk (by repeat (first | exact Pick.here | apply Pick.there | apply Pick.seg)) (by rfl) ?_ | refine Sub.seg (by repeat (first | exact PickSeg.here | exact PickSeg.all | apply PickSeg.there | apply PickSeg.seg)) ?_ | exact Sub.seg0 (by repeat (first | exact PickSeg.here | exact PickSeg.all | apply PickSeg.there | apply PickSeg.seg)) | apply Sub.assoc))), ?_⟩
          refine kt_one ?_
          refine kl_k rfl rfl (n_lit (enc := encAirway) [] ([] : List Airway) Tryd.runUnderlying30 Tryd.sizeOf57 Tryd.zeroValue57 (fun a21 => ?_))
          refine ⟨.inl (by (repeat (first | exact Sub.refl _ | exact Sub.nil _ | refine Sub.chunk (by repeat (first | exact Pick.here | apply Pick.there | apply Pick.seg)) (by rfl) ?_ | refine Sub.seg (by repeat (first | exact PickSeg.here | exact PickSeg.all | apply PickSeg.there | apply PickSeg.seg)) ?_ | exact Sub.seg0 (by repeat (first | exact PickSeg.here | exact PickSeg.all | apply PickSeg.there | apply PickSeg.seg)) | apply Sub.assoc))), ?_⟩
          refine kt_one ?_
          refine kl_k rfl rfl (n_app (enc := encAirway) ok_encAirway hz22 Tryd.underlying30 Tryd.type57 (by decide) (fun a23 c24 => ?_))
          refine ⟨.inl (by (repeat (first | exact Sub.refl _ | exact Sub.nil _ | refine Sub.chunk (by repeat (first | exact Pick.here | apply Pick.there | apply Pick.seg)) (by rfl) ?_ | refine Sub.seg (by repeat (first | exact PickSeg.here | exact PickSeg.all | apply PickSeg.there | apply PickSeg.seg)) ?_ | exact Sub.seg0 (by repeat (first | exact PickSeg.here | exact PickSeg.all | apply PickSeg.there | apply PickSeg.seg)) | apply Sub.assoc))), ?_⟩
          refine kt_d rfl rfl rfl (v_bd [(0, _), (1, _)] [_, _] Tryd.zeroValue32 Tryd.runUnderlying32 pl_32) ?_
          refine kt_one ?_
          refine kl_k rfl rfl (s_B (e' := [.int .i64 m0.p, .slice a23 ((([] : List Airway) ++ m0.aw).length) c24]) Tryd.sizeOf32 ?_)
          refine ⟨.inl (by (repeat (first | exact Sub.refl _ | exact Sub.nil _ | refine Sub.chunk (by repeat (first | exact Pick.here | apply Pick.there | apply Pick.seg)) (by rfl) ?_ | refine Sub.seg (by repeat (first | exact PickSeg.here | exact PickSeg.all | apply PickSeg.there | apply PickSeg.seg)) ?_ | exact Sub.seg0 (by repeat (first | exact PickSeg.here | exact PickSeg.all | apply PickSeg.there | apply PickSeg.seg)) | apply Sub.assoc))), ?_⟩
          refine kt_nil ?_
          refine kn_then ?_
          exact ⟨(a23, c24, p6_25), hd_mk trivial⟩
      · intro y26 _
        obtain ⟨a23, c24, p6_25⟩ := y26
        refine kn_then ?_
        refine kwp_seq ?_
        obtain ⟨j27, ej27, nj27, h19⟩ := e_idx h19
        refine kwp_tree (.quiet 0 (.quiet 1 (.quiet 2 (.quiet 3 (.quiet 4 (.quiet 5 (.quiet 6 (.quiet 7 (.quiet 8 (.quiet 9 (.quiet 10 (.quiet 11 (.one 12 .stop))))))))))))) [12] [⟨.slice a23 ((([] : List Airway) ++ m0.aw).length) c24, 3, (([] : List Airway) ++ m0.aw).map encAirway⟩, ⟨.pointer (some p6_25), 2, [[.int .i64 m0.p, .slice a23 ((([] : List Airway) ++ m0.aw).length) c24]]⟩] drawMixed (by kernel_rfl) nopan (by (repeat (first | exact Sub.refl _ | exact Sub.nil _ | refine Sub.chunk (by repeat (first | exact Pick.here | apply Pick.there | apply Pick.seg)) (by rfl) ?_ | refine Sub.seg (by repeat (first | exact PickSeg.here | exact PickSeg.all | apply PickSeg.there | apply PickSeg.seg)) ?_ | exact Sub.seg0 (by repeat (first | exact PickSeg.here | exact PickSeg.all | apply PickSeg.there | apply PickSeg.seg)) | apply Sub.assoc))) ?_
        refine kt_d rfl rfl rfl (v_fb fa_32_1) ?_
        refine kt_d rfl rfl rfl (v_ldb Tryd.isAgg30) ?_
        refine kt_d rfl rfl rfl (v_mv) ?_
        refine kt_d rfl rfl rfl (v_fb fa_32_1) ?_
        refine kt_d rfl rfl rfl (v_ldb Tryd.isAgg30) ?_
        refine kt_d rfl rfl rfl (v_mv) ?_
        refine kt_d rfl rfl rfl (v_ia ej27 nj27 Tryd.runUnderlying30 Tryd.sizeOf57) ?_
        refine kt_d rfl rfl rfl (v_fa nj27 fa_57_2) ?_
        refine kt_d rfl rfl rfl (v_ldf nj27 Tryd.isAgg3) ?_
        refine kt_d rfl rfl rfl (v_add) ?_
        refine kt_d rfl rfl rfl (v_ia ej27 nj27 Tryd.runUnderlying30 Tryd.sizeOf57) ?_
        refine kt_d rfl rfl rfl (v_fa nj27 fa_57_2) ?_
        refine kt_one ?_
        refine kl_k rfl rfl (s_f { gx (([] : List Airway) ++ m0.aw) j27 with w := w64 (((gx (([] : List Airway) ++ m0.aw) j27).w) + 1) } nj27 Tryd.sizeOf3 ?_)
        refine ⟨.inr ⟨by decide, rfl⟩, ?_⟩
        refine kt_nil ?_
        refine kn_then ?_
        refine kwp_seq ?_
        refine kwp_region ?_
        refine kd (v_ldB Tryd.isAgg32 Tryd.sizeOf32) ?_
        refine kk (s_B (e' := [.int .i64 m0.p, .slice a23 ((([] : List Airway) ++ m0.aw).length) c24]) Tryd.sizeOf32 ?_)
        refine kd (v_as) ?_
        refine kops_nil ?_
        refine kn_then ?_
        refine k_len (c := c24) (fun hl28 => ?_)
        refine kwp_ret ?_
        obtain rfl := e_some h19
        refine rc1 Tryd.isAgg32 Tryd.sizeOf32 [⟨.slice a23 ((([] : List Airway) ++ m0.aw).length) c24, 3, ((([] : List Airway) ++ m0.aw).set j27 { gx (([] : List Airway) ++ m0.aw) j27 with w := w64 (((gx (([] : List Airway) ++ m0.aw) j27).w) + 1) }).map encAirway⟩] ?_
        exact ⟨a23, c24, by first | rfl | (rw [← hl28] <;> rfl) | ((try dsimp only); rw [← hl28] <;> rfl) | (simp; done), by first | rfl | (rw [← hl28] <;> rfl) | ((try dsimp only); rw [← hl28] <;> rfl) | (simp; done)⟩

end Go.Proofs.YtkedammjdldloaaDoor
