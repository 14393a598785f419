/- What the plain programs return, the functions of the program return; no condition. -/
import Derived.Test.YtkedammjdldloaaDoorQbb
import Derived.Test.YtkedammjdldloaaDoorFa
import Derived.Test.YtkedammjdldloaaDoorVbs
import Derived.Test.YtkedammjdldloaaDoorVbi
namespace Go.Proofs.YtkedammjdldloaaDoor
open Go
set_option linter.unusedVariables false
set_option linter.unusedSimpArgs false

set_option maxRecDepth 20000 in
set_option maxHeartbeats 2000000 in
theorem w_impl_WidenBest (m01a : Option Addr) (m01n : Nat) (m01c : Nat) {m0 : Mine} {a0 : Int} {b0 : Int} {r : Int} (h : p_impl_WidenBest m0 a0 b0 = some r) :
    Triple Tryd.prog 12 [.agg #[.int .i64 m0.p, .slice m01a m01n m01c], .int .i64 a0, .int .i64 b0] [⟨.slice m01a m01n m01c, 3, m0.aw.map encAirway⟩] [] (fun v ch => v = .int .i64 r ∧ ch = []) := by
  refine triple_start 63 Tryd.func12 Tryd.ntmps12 rfl rfl (fun w0 => ?_)
  refine k_len (c := m01c) (fun hl1 => ?_)
  subst hl1
  unfold p_impl_WidenBest at h
  refine kwp_seq ?_
  refine kwp_region ?_
  refine kk (n_box (e := [.int .i64 m0.p, .slice m01a m0.aw.length m01c]) 2 (fun p3_2 => ?_))
  refine kd (v_as) ?_
  refine kops_nil ?_
  refine kn_then ?_
  refine kwp_seq ?_
  refine kwp_seq ?_
  refine kwp_cutE (inv := [(1, .int .i64 a0), (2, .int .i64 b0), (3, .pointer (some p3_2))]) (fun (z : Bool) (y : Unit) => [(30, .bool z)]) (fun (z : Bool) (y : Unit) => [⟨.pointer (some p3_2), 2, [[.int .i64 m0.p, .slice m01a m0.aw.length m01c]]⟩]) (fun _ _ => True) h ?_ ?_
  · intro t6 h4
    refine kwp_region ?_
    refine kd (v_ldB Tryd.isAgg32 Tryd.sizeOf32) ?_
    obtain ⟨v8, hv7, h4⟩ := e_bind h4
    refine kk (n_call Tryd.call25 (w_impl_AirLinked m01a m0.aw.length m01c hv7) ?_)
    rintro _ _ ⟨rfl, rfl⟩
    refine kd (v_not) ?_
    refine kd (v_mv) ?_
    refine kops_split 17 rfl (fun hb10 => ?_) (fun hb10 => ?_)
    ·
      replace h4 := e_t h4 hb10
      refine kskip hb10 ?_
      refine kskip hb10 ?_
      refine kskip hb10 ?_
      refine kskip hb10 ?_
      refine kskip hb10 ?_
      refine kd (v_pt hb10) ?_
      refine kd (v_mv) ?_
      refine kskip rfl ?_
      refine kskip rfl ?_
      refine kskip rfl ?_
      refine kskip rfl ?_
      refine kskip rfl ?_
      refine kd (v_pt rfl) ?_
      refine kops_nil ?_
      refine kn_then ?_
      obtain rfl := e_some h4
      exact ⟨(), hd_mk trivial⟩
    ·
      replace h4 := e_f h4 hb10
      refine kgd hb10 (v_mv) ?_
      refine kgd hb10 (v_fb fa_32_0) ?_
      refine kgd hb10 (v_ldb Tryd.isAgg3) ?_
      obtain ⟨v12, hv11, h4⟩ := e_bind h4
      refine kgk hb10 (n_call Tryd.call26 (w_impl_isIndex hv11) ?_)
      rintro _ _ ⟨rfl, rfl⟩
      refine kgd hb10 (v_not) ?_
      refine kd (v_pf hb10) ?_
      refine kd (v_mv) ?_
      refine kops_split 24 rfl (fun hb14 => ?_) (fun hb14 => ?_)
      ·
        replace h4 := e_t h4 hb14
        refine kskip hb14 ?_
        refine kskip hb14 ?_
        refine kskip hb14 ?_
        refine kskip hb14 ?_
        refine kskip hb14 ?_
        refine kd (v_pt hb14) ?_
        refine kops_nil ?_
        refine kn_then ?_
        obtain rfl := e_some h4
        exact ⟨(), hd_mk trivial⟩
      ·
        replace h4 := e_f h4 hb14
        refine kgd hb14 (v_mv) ?_
        refine kgd hb14 (v_fb fa_32_0) ?_
        refine kgd hb14 (v_ldb Tryd.isAgg3) ?_
        obtain ⟨v16, hv15, h4⟩ := e_bind h4
        refine kgk hb14 (n_call Tryd.call26 (w_impl_isIndex hv15) ?_)
        rintro _ _ ⟨rfl, rfl⟩
        refine kgd hb14 (v_not) ?_
        refine kd (v_pf hb14) ?_
        refine kops_nil ?_
        refine kn_then ?_
        obtain rfl := e_some h4
        exact ⟨(), hd_mk trivial⟩
  · intro x3 y19 _ h20
    refine kn_then ?_
    refine kwp_cond rfl (fun hc21 => ?_) (fun hc21 => ?_)
    ·
      replace h20 := e_t h20 hc21
      refine kwp_seq ?_
      refine kwp_region ?_
      refine kd (v_as) ?_
      refine kops_nil ?_
      refine kn_then ?_
      refine kwp_ret ?_
      refine kr_then ?_
      obtain rfl := e_some h20
      refine r1 [] ?_
      exact ⟨rfl, rfl⟩
    ·
      replace h20 := e_f h20 hc21
      refine kwp_skip ?_
      refine kn_then ?_
      refine kwp_seq ?_
      refine kwp_region ?_
      refine kd (v_as) ?_
      refine kops_nil ?_
      refine kn_then ?_
      refine kwp_seq ?_
      refine kwp_region ?_
      refine kk (n_alloc (e := [.int .i64 0, .int .i64 0]) 2 Tryd.zeroValue39 (fun p8_22 => ?_))
      refine kops_nil ?_
      refine kn_then ?_
      refine kwp_seq ?_
      refine kwp_seq ?_
      refine kwp_region ?_
      refine kd (v_fb fa_32_1) ?_
      refine kd (v_ldb Tryd.isAgg30) ?_
      refine kd (v_len Tryd.runUnderlying30) ?_
      refine kd (v_mv) ?_
      refine kops_nil ?_
      refine kn_then ?_
      refine kwp_cutE (inv := []) (fun (z : Int) (y : Unit) => [(7, .int .i64 z)]) (fun (z : Int) (y : Unit) => []) (fun _ _ => True) h20 ?_ ?_
      · intro t26 h24
        refine kwp_block ?_
        refine kwp_loopE (inv := [(1, .int .i64 a0), (2, .int .i64 b0), (3, .pointer (some p3_2)), (8, .pointer (some p8_22)), (33, .int .i64 ((m0.aw.length : Nat) : Int))]) (fun (z : Int × Int × Int × Int) (y : Unit) => [(7, .int .i64 z.1), (34, .int .i64 z.2.1)]) (fun (z : Int × Int × Int × Int) (y : Unit) => [⟨.pointer (some p8_22), 2, [[.int .i64 z.2.2.1, .int .i64 z.2.2.2]]⟩, ⟨.pointer (some p3_2), 2, [[.int .i64 m0.p, .slice m01a m0.aw.length m01c]]⟩]) (fun _ _ => True) h24 ⟨(), hd_mk trivial⟩ ?_
        intro z33 y34 b31 _ h32
        obtain ⟨best27, x28, num29, den30⟩ := z33
        unfold p_impl_WidenBest_L0 at h32
        refine kwp_seq ?_
        refine kwp_region ?_
        refine kd (v_cmp) ?_
        refine kops_nil ?_
        refine kn_then ?_
        refine kwp_seq ?_
        refine kwp_cond rfl (fun hc35 => ?_) (fun hc35 => ?_)
        ·
          replace h32 := e_t h32 hc35
          refine kwp_skip ?_
          refine kn_then ?_
          refine kwp_seq ?_
          refine kwp_block ?_
          refine kwp_seq ?_
          refine kwp_region ?_
          refine kd (v_mv) ?_
          refine kd (v_as) ?_
          refine kops_nil ?_
          refine kn_then ?_
          refine kwp_seq ?_
          refine kwp_region ?_
          refine kd (v_ldB Tryd.isAgg32 Tryd.sizeOf32) ?_
          refine kd (v_mv) ?_
          obtain ⟨⟨v37, v38⟩, hv36, h32⟩ := e_bind h32
          refine kk (n_call Tryd.call14 (w_impl_Widen m01a m0.aw.length m01c hv36) ?_)
          rintro _ _ ⟨q391a, q391c, rfl, rfl⟩
          refine kd (v_mv) ?_
          refine kd (v_ex) ?_
          refine kd (v_ex) ?_
          refine kops_nilchunk 3 (by decide) ?_
          refine kk (n_alloc (e := [.int .i64 0, .slice none 0 0]) 2 Tryd.zeroValue32 (fun p10_41 => ?_))
          refine kk (s_B (e' := [.int .i64 v37.p, .slice q391a v37.aw.length q391c]) Tryd.sizeOf32 ?_)
          refine kd (v_as) ?_
          refine kops_nil ?_
          refine kn_then ?_
          refine kwp_seq ?_
          refine kwp_seq ?_
          refine kwp_region ?_
          refine kd (v_mv) ?_
          refine kd (v_not) ?_
          refine kops_nil ?_
          refine kn_then ?_
          refine kwp_cond rfl (fun hc42 => ?_) (fun hc42 => ?_)
          ·
            replace h32 := e_t h32 hc42
            refine kwp_exit ?_
            refine ke_then ?_
            refine ke_block ?_
            refine kn_then ?_
            refine kwp_region ?_
            refine kd (v_add) ?_
            refine kd (v_mv) ?_
            refine kops_nil ?_
            refine kn_then ?_
            obtain rfl := e_some h32
            exact ⟨_, (), rfl, hd_mk trivial⟩
          ·
            replace h32 := e_f h32 hc42
            refine kwp_skip ?_
            refine kn_then ?_
            refine kwp_seq ?_
            refine kwp_region ?_
            refine kd (v_ldB Tryd.isAgg32 Tryd.sizeOf32) ?_
            refine kd (v_mv) ?_
            refine kd (v_mv) ?_
            obtain ⟨⟨v44, v45⟩, hv43, h32⟩ := e_bind h32
            refine kk (n_call Tryd.call15 (w_impl_AirResist q391a v37.aw.length q391c hv43) ?_)
            rintro _ _ ⟨rfl, rfl⟩
            refine kd (v_mv) ?_
            refine kd (v_ex) ?_
            refine kd (v_ex) ?_
            refine kk (n_alloc (e := [.int .i64 0, .int .i64 0]) 2 Tryd.zeroValue39 (fun p12_48 => ?_))
            refine kk (s_B (e' := [.int .i64 v44.num, .int .i64 v44.den]) Tryd.sizeOf39 ?_)
            refine kd (v_as) ?_
            refine kops_nil ?_
            refine kn_then ?_
            refine kwp_seq ?_
            refine kwp_region ?_
            refine kd (v_mv) ?_
            refine kd (v_cmp) ?_
            refine kd (v_mv) ?_
            refine kops_split 54 rfl (fun hb49 => ?_) (fun hb49 => ?_)
            ·
              replace h32 := e_t h32 hb49
              refine kskip hb49 ?_
              refine kskip hb49 ?_
              refine kskip hb49 ?_
              refine kd (v_pt hb49) ?_
              refine kops_nil ?_
              refine kn_then ?_
              refine kwp_cond_t rfl rfl ?_
              refine kwp_tree (.quiet 0 (.quiet 1 (.quiet 2 (.one 3 .stop)))) [] [⟨.pointer (some p12_48), 2, [[.int .i64 v44.num, .int .i64 v44.den]]⟩] drawMixed (by kernel_rfl) nopan (by (repeat (first | exact Sub.refl _ | exact Sub.nil _ | refine Sub.chunk (by repeat (first | exact Pick.here | apply Pick.there | apply Pick.seg)) (by rfl) ?_ | refine Sub.seg (by repeat (first | exact PickSeg.here | exact PickSeg.all | apply PickSeg.there | apply PickSeg.seg)) ?_ | exact Sub.seg0 (by repeat (first | exact PickSeg.here | exact PickSeg.all | apply PickSeg.there | apply PickSeg.seg)) | apply Sub.assoc))) ?_
              refine kt_d rfl rfl rfl (v_mv) ?_
              refine kt_d rfl rfl rfl (v_ldB Tryd.isAgg39 Tryd.sizeOf39) ?_
              refine kt_d rfl rfl rfl (v_as) ?_
              refine kt_one ?_
              refine kl_k rfl rfl (s_B (e' := [.int .i64 v44.num, .int .i64 v44.den]) Tryd.sizeOf39 ?_)
              refine ⟨.inl (by (repeat (first | exact Sub.refl _ | exact Sub.nil _ | refine Sub.chunk (by repeat (first | exact Pick.here | apply Pick.there | apply Pick.seg)) (by rfl) ?_ | refine Sub.seg (by repeat (first | exact PickSeg.here | exact PickSeg.all | apply PickSeg.there | apply PickSeg.seg)) ?_ | exact Sub.seg0 (by repeat (first | exact PickSeg.here | exact PickSeg.all | apply PickSeg.there | apply PickSeg.seg)) | apply Sub.assoc))), ?_⟩
              refine kt_nil ?_
              refine kn_block ?_
              refine kn_then ?_
              refine kwp_region ?_
              refine kd (v_add) ?_
              refine kd (v_mv) ?_
              refine kops_nil ?_
              refine kn_then ?_
              obtain rfl := e_some h32
              exact ⟨_, (), rfl, hd_mk trivial⟩
            ·
              replace h32 := e_f h32 hb49
              refine kgd hb49 (v_ldB Tryd.isAgg39 Tryd.sizeOf39) ?_
              refine kgd hb49 (v_ldB Tryd.isAgg39 Tryd.sizeOf39) ?_
              obtain ⟨v51, hv50, h32⟩ := e_bind h32
              refine kgk hb49 (n_call Tryd.call16 (w_impl_FracLess hv50) ?_)
              rintro _ _ ⟨rfl, rfl⟩
              refine kd (v_pf hb49) ?_
              refine kops_nil ?_
              refine kn_then ?_
              refine kwp_cond rfl (fun hc53 => ?_) (fun hc53 => ?_)
              ·
                replace h32 := e_t h32 hc53
                refine kwp_tree (.quiet 0 (.quiet 1 (.quiet 2 (.one 3 .stop)))) [] [⟨.pointer (some p12_48), 2, [[.int .i64 v44.num, .int .i64 v44.den]]⟩] drawMixed (by kernel_rfl) nopan (by (repeat (first | exact Sub.refl _ | exact Sub.nil _ | refine Sub.chunk (by repeat (first | exact Pick.here | apply Pick.there | apply Pick.seg)) (by rfl) ?_ | refine Sub.seg (by repeat (first | exact PickSeg.here | exact PickSeg.all | apply PickSeg.there | apply PickSeg.seg)) ?_ | exact Sub.seg0 (by repeat (first | exact PickSeg.here | exact PickSeg.all | apply PickSeg.there | apply PickSeg.seg)) | apply Sub.assoc))) ?_
                refine kt_d rfl rfl rfl (v_mv) ?_
                refine kt_d rfl rfl rfl (v_ldB Tryd.isAgg39 Tryd.sizeOf39) ?_
                refine kt_d rfl rfl rfl (v_as) ?_
                refine kt_one ?_
                refine kl_k rfl rfl (s_B (e' := [.int .i64 v44.num, .int .i64 v44.den]) Tryd.sizeOf39 ?_)
                refine ⟨.inl (by (repeat (first | exact Sub.refl _ | exact Sub.nil _ | refine Sub.chunk (by repeat (first | exact Pick.here | apply Pick.there | apply Pick.seg)) (by rfl) ?_ | refine Sub.seg (by repeat (first | exact PickSeg.here | exact PickSeg.all | apply PickSeg.there | apply PickSeg.seg)) ?_ | exact Sub.seg0 (by repeat (first | exact PickSeg.here | exact PickSeg.all | apply PickSeg.there | apply PickSeg.seg)) | apply Sub.assoc))), ?_⟩
                refine kt_nil ?_
                refine kn_block ?_
                refine kn_then ?_
                refine kwp_region ?_
                refine kd (v_add) ?_
                refine kd (v_mv) ?_
                refine kops_nil ?_
                refine kn_then ?_
                obtain rfl := e_some h32
                exact ⟨_, (), rfl, hd_mk trivial⟩
              ·
                replace h32 := e_f h32 hc53
                refine kwp_skip ?_
                refine kn_block ?_
                refine kn_then ?_
                refine kwp_region ?_
                refine kd (v_add) ?_
                refine kd (v_mv) ?_
                refine kops_nil ?_
                refine kn_then ?_
                obtain rfl := e_some h32
                exact ⟨_, (), rfl, hd_mk trivial⟩
        ·
          replace h32 := e_f h32 hc35
          refine kwp_exit ?_
          refine ke_then ?_
          obtain rfl := e_some h32
          refine k_out ?_ rfl
          rintro rfl
          refine ke_block ?_
          exact ⟨(), hd_mk trivial⟩
      · intro best23 y55 _ h56
        refine kn_then ?_
        refine kwp_seq ?_
        refine kwp_region ?_
        refine kd (v_mv) ?_
        refine kd (v_as) ?_
        refine kops_nil ?_
        refine kn_then ?_
        refine kwp_ret ?_
        obtain rfl := e_some h56
        refine r1 [] ?_
        exact ⟨rfl, rfl⟩

set_option maxRecDepth 20000 in
set_option maxHeartbeats 2000000 in
theorem w_spec_WidenBest (m01a : Option Addr) (m01n : Nat) (m01c : Nat) {m0 : Mine} {a0 : Int} {b0 : Int} {r : Int} (h : p_spec_WidenBest m0 a0 b0 = some r) :
    Triple Tryd.prog 13 [.agg #[.int .i64 m0.p, .slice m01a m01n m01c], .int .i64 a0, .int .i64 b0] [⟨.slice m01a m01n m01c, 3, m0.aw.map encAirway⟩] [] (fun v ch => v = .int .i64 r ∧ ch = []) := by
  refine triple_start 51 Tryd.func13 Tryd.ntmps13 rfl rfl (fun w0 => ?_)
  refine k_len (c := m01c) (fun hl1 => ?_)
  subst hl1
  unfold p_spec_WidenBest at h
  refine kwp_seq ?_
  refine kwp_region ?_
  refine kk (n_box (e := [.int .i64 m0.p, .slice m01a m0.aw.length m01c]) 2 (fun p3_2 => ?_))
  refine kd (v_as) ?_
  refine kops_nil ?_
  refine kn_then ?_
  refine kwp_seq ?_
  refine kwp_region ?_
  refine kd (v_as) ?_
  refine kops_nil ?_
  refine kn_then ?_
  refine kwp_seq ?_
  refine kwp_region ?_
  refine kd (v_bd [] [.int .i64 0, .int .i64 0] Tryd.zeroValue39 Tryd.runUnderlying39 pl_39) ?_
  refine kk (n_alloc (e := [.int .i64 0, .int .i64 0]) 2 Tryd.zeroValue39 (fun p8_3 => ?_))
  refine kk (s_B (e' := [.int .i64 0, .int .i64 0]) Tryd.sizeOf39 ?_)
  refine kops_nil ?_
  refine kn_then ?_
  refine kwp_seq ?_
  refine kwp_seq ?_
  refine kwp_region ?_
  refine kd (v_as) ?_
  refine kops_nil ?_
  refine kn_then ?_
  refine kwp_cutE (inv := []) (fun (z : Int) (y : Unit) => [(7, .int .i64 z)]) (fun (z : Int) (y : Unit) => []) (fun _ _ => True) h ?_ ?_
  · intro t7 h5
    refine kwp_block ?_
    refine kwp_loopE (inv := [(1, .int .i64 a0), (2, .int .i64 b0), (3, .pointer (some p3_2)), (8, .pointer (some p8_3))]) (fun (z : Int × Int × Int × Int) (y : Unit) => [(7, .int .i64 z.1), (9, .int .i64 z.2.1)]) (fun (z : Int × Int × Int × Int) (y : Unit) => [⟨.pointer (some p8_3), 2, [[.int .i64 z.2.2.1, .int .i64 z.2.2.2]]⟩, ⟨.pointer (some p3_2), 2, [[.int .i64 m0.p, .slice m01a m0.aw.length m01c]]⟩]) (fun _ _ => True) h5 ⟨(), hd_mk trivial⟩ ?_
    intro z14 y15 b12 _ h13
    obtain ⟨best8, k9, num10, den11⟩ := z14
    unfold p_spec_WidenBest_L0 at h13
    refine kwp_seq ?_
    refine kwp_seq ?_
    refine kwp_region ?_
    refine kd (v_mv) ?_
    refine kd (v_fb fa_32_1) ?_
    refine kd (v_ldb Tryd.isAgg30) ?_
    refine kd (v_len Tryd.runUnderlying30) ?_
    refine kd (v_cmp) ?_
    refine kops_nil ?_
    refine kn_then ?_
    refine kwp_cond rfl (fun hc16 => ?_) (fun hc16 => ?_)
    ·
      replace h13 := e_t h13 hc16
      refine kwp_skip ?_
      refine kn_then ?_
      refine kwp_seq ?_
      refine kwp_block ?_
      refine kwp_seq ?_
      refine kwp_region ?_
      refine kd (v_ldB Tryd.isAgg32 Tryd.sizeOf32) ?_
      refine kd (v_mv) ?_
      obtain ⟨⟨v18, v19⟩, hv17, h13⟩ := e_bind h13
      refine kk (n_call Tryd.call27 (w_spec_Widen m01a m0.aw.length m01c hv17) ?_)
      rintro _ _ ⟨q201a, q201c, rfl, rfl⟩
      refine kd (v_mv) ?_
      refine kd (v_ex) ?_
      refine kd (v_ex) ?_
      refine kops_nilchunk 3 (by decide) ?_
      refine kk (n_alloc (e := [.int .i64 0, .slice none 0 0]) 2 Tryd.zeroValue32 (fun p10_22 => ?_))
      refine kk (s_B (e' := [.int .i64 v18.p, .slice q201a v18.aw.length q201c]) Tryd.sizeOf32 ?_)
      refine kd (v_as) ?_
      refine kops_nil ?_
      refine kn_then ?_
      refine kwp_seq ?_
      refine kwp_region ?_
      refine kd (v_ldB Tryd.isAgg32 Tryd.sizeOf32) ?_
      refine kd (v_mv) ?_
      refine kd (v_mv) ?_
      obtain ⟨⟨v24, v25⟩, hv23, h13⟩ := e_bind h13
      refine kk (n_call Tryd.call28 (w_spec_AirResist q201a v18.aw.length q201c hv23) ?_)
      rintro _ _ ⟨rfl, rfl⟩
      refine kd (v_mv) ?_
      refine kd (v_ex) ?_
      refine kd (v_ex) ?_
      refine kk (n_alloc (e := [.int .i64 0, .int .i64 0]) 2 Tryd.zeroValue39 (fun p12_28 => ?_))
      refine kk (s_B (e' := [.int .i64 v24.num, .int .i64 v24.den]) Tryd.sizeOf39 ?_)
      refine kd (v_as) ?_
      refine kops_nil ?_
      refine kn_then ?_
      refine kwp_seq ?_
      refine kwp_region ?_
      refine kd (v_mv) ?_
      refine kd (v_mv) ?_
      refine kops_split 36 rfl (fun hb29 => ?_) (fun hb29 => ?_)
      ·
        replace h13 := e_t h13 hb29
        refine kgd hb29 (v_mv) ?_
        refine kd (v_pt hb29) ?_
        refine kd (v_mv) ?_
        refine kops_split 39 rfl (fun hb30 => ?_) (fun hb30 => ?_)
        ·
          replace h13 := e_t h13 hb30
          refine kgd hb30 (v_mv) ?_
          refine kgd hb30 (v_cmp) ?_
          refine kgd hb30 (v_mv) ?_
          refine kops_split 42 rfl (fun hb31 => ?_) (fun hb31 => ?_)
          ·
            replace h13 := e_t h13 hb31
            refine kskip hb31 ?_
            refine kskip hb31 ?_
            refine kskip hb31 ?_
            refine kgd hb30 (v_pt hb31) ?_
            refine kd (v_pt hb30) ?_
            refine kops_nil ?_
            refine kn_then ?_
            refine kwp_cond_t rfl rfl ?_
            refine kwp_seq ?_
            refine kwp_region ?_
            refine kd (v_mv) ?_
            refine kd (v_as) ?_
            refine kops_nil ?_
            refine kn_then ?_
            refine kwp_region ?_
            refine kd (v_ldB Tryd.isAgg39 Tryd.sizeOf39) ?_
            refine kk (s_B (e' := [.int .i64 v24.num, .int .i64 v24.den]) Tryd.sizeOf39 ?_)
            refine kops_nil ?_
            refine kn_block ?_
            refine kn_then ?_
            refine kwp_region ?_
            refine kd (v_mv) ?_
            refine kd (v_add) ?_
            refine kd (v_as) ?_
            refine kops_nil ?_
            refine kn_then ?_
            obtain rfl := e_some h13
            exact ⟨_, (), rfl, hd_mk trivial⟩
          ·
            replace h13 := e_f h13 hb31
            refine kgd hb31 (v_ldB Tryd.isAgg39 Tryd.sizeOf39) ?_
            refine kgd hb31 (v_ldB Tryd.isAgg39 Tryd.sizeOf39) ?_
            obtain ⟨v33, hv32, h13⟩ := e_bind h13
            refine kgk hb31 (n_call Tryd.call29 (w_spec_FracLess hv32) ?_)
            rintro _ _ ⟨rfl, rfl⟩
            refine kgd hb30 (v_pf hb31) ?_
            refine kd (v_pt hb30) ?_
            refine kops_nil ?_
            refine kn_then ?_
            refine kwp_cond rfl (fun hc35 => ?_) (fun hc35 => ?_)
            ·
              replace h13 := e_t h13 hc35
              refine kwp_seq ?_
              refine kwp_region ?_
              refine kd (v_mv) ?_
              refine kd (v_as) ?_
              refine kops_nil ?_
              refine kn_then ?_
              refine kwp_region ?_
              refine kd (v_ldB Tryd.isAgg39 Tryd.sizeOf39) ?_
              refine kk (s_B (e' := [.int .i64 v24.num, .int .i64 v24.den]) Tryd.sizeOf39 ?_)
              refine kops_nil ?_
              refine kn_block ?_
              refine kn_then ?_
              refine kwp_region ?_
              refine kd (v_mv) ?_
              refine kd (v_add) ?_
              refine kd (v_as) ?_
              refine kops_nil ?_
              refine kn_then ?_
              obtain rfl := e_some h13
              exact ⟨_, (), rfl, hd_mk trivial⟩
            ·
              replace h13 := e_f h13 hc35
              refine kwp_skip ?_
              refine kn_block ?_
              refine kn_then ?_
              refine kwp_region ?_
              refine kd (v_mv) ?_
              refine kd (v_add) ?_
              refine kd (v_as) ?_
              refine kops_nil ?_
              refine kn_then ?_
              obtain rfl := e_some h13
              exact ⟨_, (), rfl, hd_mk trivial⟩
        ·
          replace h13 := e_f h13 hb30
          refine kskip hb30 ?_
          refine kskip hb30 ?_
          refine kskip hb30 ?_
          refine kops_skipU ?_
          refine kops_skipU ?_
          refine kops_skipU ?_
          refine kskip hb30 ?_
          refine kd (v_pf hb30) ?_
          refine kops_nil ?_
          refine kn_then ?_
          refine kwp_cond_f rfl rfl ?_
          refine kwp_skip ?_
          refine kn_block ?_
          refine kn_then ?_
          refine kwp_region ?_
          refine kd (v_mv) ?_
          refine kd (v_add) ?_
          refine kd (v_as) ?_
          refine kops_nil ?_
          refine kn_then ?_
          obtain rfl := e_some h13
          exact ⟨_, (), rfl, hd_mk trivial⟩
      ·
        replace h13 := e_f h13 hb29
        refine kskip hb29 ?_
        refine kd (v_pf hb29) ?_
        refine kd (v_mv) ?_
        refine kskip rfl ?_
        refine kskip rfl ?_
        refine kskip rfl ?_
        refine kops_skipU ?_
        refine kops_skipU ?_
        refine kops_skipU ?_
        refine kskip rfl ?_
        refine kd (v_pf rfl) ?_
        refine kops_nil ?_
        refine kn_then ?_
        refine kwp_cond_f rfl rfl ?_
        refine kwp_skip ?_
        refine kn_block ?_
        refine kn_then ?_
        refine kwp_region ?_
        refine kd (v_mv) ?_
        refine kd (v_add) ?_
        refine kd (v_as) ?_
        refine kops_nil ?_
        refine kn_then ?_
        obtain rfl := e_some h13
        exact ⟨_, (), rfl, hd_mk trivial⟩
    ·
      replace h13 := e_f h13 hc16
      refine kwp_exit ?_
      refine ke_then ?_
      obtain rfl := e_some h13
      refine k_out ?_ rfl
      rintro rfl
      refine ke_block ?_
      exact ⟨(), hd_mk trivial⟩
  · intro best4 y37 _ h38
    refine kn_then ?_
    refine kwp_seq ?_
    refine kwp_region ?_
    refine kd (v_mv) ?_
    refine kd (v_as) ?_
    refine kops_nil ?_
    refine kn_then ?_
    refine kwp_ret ?_
    obtain rfl := e_some h38
    refine r1 [] ?_
    exact ⟨rfl, rfl⟩

end Go.Proofs.YtkedammjdldloaaDoor
