/- What the plain programs return, the functions of the program return; no condition. -/
import Derived.Test.YtfgialdcilldiaaQ1JoinLevel
import Derived.Test.YtfgialdcilldiaaFa
import Derived.Test.YtfgialdcilldiaaVc
import Derived.Test.YtfgialdcilldiaaVp
import Derived.Test.YtfgialdcilldiaaVi
import Derived.Test.YtfgialdcilldiaaV1PoolsAt
namespace Go.Proofs.Ytfgialdcilldiaa
open Go
set_option linter.unusedVariables false
set_option linter.unusedSimpArgs false

set_option maxRecDepth 20000 in
set_option maxHeartbeats 2000000 in
theorem w_impl_JoinLevel (c00a : Option Addr) (c00n : Nat) (c00c : Nat) (c01a : Option Addr) (c01n : Nat) (c01c : Nat) (c02a : Option Addr) (c02n : Nat) (c02c : Nat) {c0 : Cave} {a0 : Int} {b0 : Int} {r : Int} (h : p_impl_JoinLevel c0 a0 b0 = some r) :
    Triple Try.prog 50 [.agg #[.slice c00a c00n c00c, .slice c01a c01n c01c, .slice c02a c02n c02c], .int .i64 a0, .int .i64 b0] [⟨.slice c00a c00n c00c, 1, c0.fl.map encI⟩, ⟨.slice c01a c01n c01c, 1, c0.ar.map encI⟩, ⟨.slice c02a c02n c02c, 3, c0.si.map encSill⟩] [] (fun v ch => v = .int .i64 r ∧ ch = []) := by
  refine triple_start 48 Try.func50 Try.ntmps50 rfl rfl (fun w0 => ?_)
  refine k_len (c := c00c) (fun hl1 => ?_)
  subst hl1
  refine k_len (c := c01c) (fun hl2 => ?_)
  subst hl2
  refine k_len (c := c02c) (fun hl3 => ?_)
  subst hl3
  unfold p_impl_JoinLevel at h
  refine kwp_seq ?_
  refine kwp_region ?_
  refine kk (n_box (e := [.slice c00a c0.fl.length c00c, .slice c01a c0.ar.length c01c, .slice c02a c0.si.length c02c]) 3 (fun p3_4 => ?_))
  refine kd (v_as) ?_
  refine kops_nil ?_
  refine kn_then ?_
  refine kwp_seq ?_
  refine kwp_seq ?_
  refine kwp_cutE (inv := [(1, .int .i64 a0), (2, .int .i64 b0), (3, .pointer (some p3_4))]) (fun (z : Bool) (y : Unit) => [(27, .bool z)]) (fun (z : Bool) (y : Unit) => [⟨.pointer (some p3_4), 3, [[.slice c00a c0.fl.length c00c, .slice c01a c0.ar.length c01c, .slice c02a c0.si.length c02c]]⟩]) (fun _ _ => True) h ?_ ?_
  · intro t8 h6
    refine kwp_region ?_
    refine kd (v_ldB Try.isAgg47 Try.sizeOf47) ?_
    obtain ⟨v10, hv9, h6⟩ := e_bind h6
    refine kk (n_call Try.call26 (w_impl_CaveValid c00a c0.fl.length c00c c01a c0.ar.length c01c c02a c0.si.length c02c hv9) ?_)
    rintro _ _ ⟨rfl, rfl⟩
    refine kd (v_not) ?_
    refine kd (v_mv) ?_
    refine kops_split 12 rfl (fun hb12 => ?_) (fun hb12 => ?_)
    ·
      replace h6 := e_t h6 hb12
      refine kskip hb12 ?_
      refine kskip hb12 ?_
      refine kskip hb12 ?_
      refine kskip hb12 ?_
      refine kskip hb12 ?_
      refine kskip hb12 ?_
      refine kd (v_pt hb12) ?_
      refine kd (v_mv) ?_
      refine kskip rfl ?_
      refine kskip rfl ?_
      refine kskip rfl ?_
      refine kskip rfl ?_
      refine kskip rfl ?_
      refine kskip rfl ?_
      refine kd (v_pt rfl) ?_
      refine kops_nil ?_
      refine kn_then ?_
      obtain rfl := e_some h6
      exact ⟨(), hd_mk trivial⟩
    ·
      replace h6 := e_f h6 hb12
      refine kgd hb12 (v_mv) ?_
      refine kgd hb12 (v_fb fa_47_0) ?_
      refine kgd hb12 (v_ldb Try.isAgg39) ?_
      refine kgd hb12 (v_len Try.runUnderlying39) ?_
      obtain ⟨v14, hv13, h6⟩ := e_bind h6
      refine kgk hb12 (n_call Try.call60 (w_impl_isIndex hv13) ?_)
      rintro _ _ ⟨rfl, rfl⟩
      refine kgd hb12 (v_not) ?_
      refine kd (v_pf hb12) ?_
      refine kd (v_mv) ?_
      refine kops_split 20 rfl (fun hb16 => ?_) (fun hb16 => ?_)
      ·
        replace h6 := e_t h6 hb16
        refine kskip hb16 ?_
        refine kskip hb16 ?_
        refine kskip hb16 ?_
        refine kskip hb16 ?_
        refine kskip hb16 ?_
        refine kskip hb16 ?_
        refine kd (v_pt hb16) ?_
        refine kops_nil ?_
        refine kn_then ?_
        obtain rfl := e_some h6
        exact ⟨(), hd_mk trivial⟩
      ·
        replace h6 := e_f h6 hb16
        refine kgd hb16 (v_mv) ?_
        refine kgd hb16 (v_fb fa_47_0) ?_
        refine kgd hb16 (v_ldb Try.isAgg39) ?_
        refine kgd hb16 (v_len Try.runUnderlying39) ?_
        obtain ⟨v18, hv17, h6⟩ := e_bind h6
        refine kgk hb16 (n_call Try.call60 (w_impl_isIndex hv17) ?_)
        rintro _ _ ⟨rfl, rfl⟩
        refine kgd hb16 (v_not) ?_
        refine kd (v_pf hb16) ?_
        refine kops_nil ?_
        refine kn_then ?_
        obtain rfl := e_some h6
        exact ⟨(), hd_mk trivial⟩
  · intro x5 y21 _ h22
    refine kn_then ?_
    refine kwp_cond rfl (fun hc23 => ?_) (fun hc23 => ?_)
    ·
      replace h22 := e_t h22 hc23
      refine kwp_seq ?_
      refine kwp_region ?_
      refine kd (v_as) ?_
      refine kops_nil ?_
      refine kn_then ?_
      refine kwp_ret ?_
      refine kr_then ?_
      obtain rfl := e_some h22
      refine r1 [] ?_
      exact ⟨rfl, rfl⟩
    ·
      replace h22 := e_f h22 hc23
      refine kwp_skip ?_
      refine kn_then ?_
      refine kwp_seq ?_
      refine kwp_seq ?_
      refine kwp_region ?_
      refine kd (v_mv) ?_
      refine kd (v_mv) ?_
      refine kd (v_cmp) ?_
      refine kops_nil ?_
      refine kn_then ?_
      refine kwp_cond rfl (fun hc24 => ?_) (fun hc24 => ?_)
      ·
        replace h22 := e_t h22 hc24
        refine kwp_seq ?_
        refine kwp_region ?_
        refine kd (v_as) ?_
        refine kops_nil ?_
        refine kn_then ?_
        refine kwp_ret ?_
        refine kr_then ?_
        obtain rfl := e_some h22
        refine r1 [] ?_
        exact ⟨rfl, rfl⟩
      ·
        replace h22 := e_f h22 hc24
        refine kwp_skip ?_
        refine kn_then ?_
        refine kwp_seq ?_
        refine kwp_seq ?_
        refine kwp_region ?_
        refine kd (v_mv) ?_
        refine kops_nil ?_
        refine kn_then ?_
        refine kwp_cutO (inv := []) (fun (z : Unit) (y : Unit) => []) (fun (z : Unit) (y : Unit) => []) (fun _ _ => True) h22 ?_ ?_
        · intro t27 h25 g26
          refine kwp_block ?_
          refine kwp_loopE (inv := [(1, .int .i64 a0), (2, .int .i64 b0), (3, .pointer (some p3_4))]) (fun (z : Int) (y : Unit) => [(31, .int .i64 z)]) (fun (z : Int) (y : Unit) => [⟨.pointer (some p3_4), 3, [[.slice c00a c0.fl.length c00c, .slice c01a c0.ar.length c01c, .slice c02a c0.si.length c02c]]⟩]) (fun _ _ => True) h25 ⟨(), hd_mk trivial⟩ ?_
          intro x28 y32 b29 _ h30
          unfold p_impl_JoinLevel_L0 at h30
          refine kwp_seq ?_
          refine kwp_region ?_
          refine kd (v_cmp) ?_
          refine kops_nil ?_
          refine kn_then ?_
          refine kwp_seq ?_
          refine kwp_cond rfl (fun hc33 => ?_) (fun hc33 => ?_)
          ·
            replace h30 := e_t h30 hc33
            refine kwp_skip ?_
            refine kn_then ?_
            refine kwp_seq ?_
            refine kwp_block ?_
            refine kwp_seq ?_
            refine kwp_region ?_
            refine kd (v_mv) ?_
            refine kd (v_as) ?_
            refine kops_nil ?_
            refine kn_then ?_
            refine kwp_seq ?_
            refine kwp_region ?_
            refine kd (v_ldB Try.isAgg47 Try.sizeOf47) ?_
            refine kd (v_mv) ?_
            obtain ⟨v35, hv34, h30⟩ := e_bind h30
            refine kk (n_call Try.call52 (w_impl_PoolsAt c00a c0.fl.length c00c c01a c0.ar.length c01c c02a c0.si.length c02c hv34) ?_)
            rintro _ _ ⟨q36a, q36c, rfl, rfl⟩
            refine kd (v_as) ?_
            refine kops_nil ?_
            refine kn_then ?_
            refine kwp_seq ?_
            obtain ⟨j37, ej37, nj37, h30⟩ := e_idx h30
            obtain ⟨j38, ej38, nj38, h30⟩ := e_idx h30
            refine kwp_tree (.quiet 0 (.quiet 1 (.quiet 2 (.quiet 3 (.quiet 4 (.quiet 5 (.quiet 6 (.quiet 7 (.quiet 8 .stop))))))))) [] [⟨.slice q36a v35.length q36c, 1, v35.map encI⟩] drawMixed (by kernel_rfl) nopan (by (repeat (first | exact Sub.refl _ | exact Sub.nil _ | refine Sub.chunk (by repeat (first | exact Pick.here | apply Pick.there | apply Pick.seg)) (by rfl) ?_ | refine Sub.seg (by repeat (first | exact PickSeg.here | exact PickSeg.all | apply PickSeg.there | apply PickSeg.seg)) ?_ | exact Sub.seg0 (by repeat (first | exact PickSeg.here | exact PickSeg.all | apply PickSeg.there | apply PickSeg.seg)) | apply Sub.assoc))) ?_
            refine kt_d rfl rfl rfl (v_mv) ?_
            refine kt_d rfl rfl rfl (v_mv) ?_
            refine kt_d rfl rfl rfl (v_ia ej37 nj37 Try.runUnderlying39 Try.sizeOf3) ?_
            refine kt_d rfl rfl rfl (v_ldf nj37 Try.isAgg3) ?_
            refine kt_d rfl rfl rfl (v_mv) ?_
            refine kt_d rfl rfl rfl (v_mv) ?_
            refine kt_d rfl rfl rfl (v_ia ej38 nj38 Try.runUnderlying39 Try.sizeOf3) ?_
            refine kt_d rfl rfl rfl (v_ldf nj38 Try.isAgg3) ?_
            refine kt_d rfl rfl rfl (v_cmp) ?_
            refine kt_nil ?_
            refine kn_then ?_
            refine kwp_cond rfl (fun hc39 => ?_) (fun hc39 => ?_)
            ·
              replace h30 := e_t h30 hc39
              refine kwp_seq ?_
              refine kwp_region ?_
              refine kd (v_mv) ?_
              refine kd (v_as) ?_
              refine kops_nil ?_
              refine kn_then ?_
              refine kwp_ret ?_
              refine kr_block ?_
              refine kr_then ?_
              refine kr_then ?_
              obtain rfl := e_some h30
              refine k_out ?_ rfl
              rintro rfl
              refine kr_block ?_
              refine kr_then ?_
              refine kr_then ?_
              obtain rfl := e_some g26
              refine r1 [] ?_
              exact ⟨rfl, rfl⟩
            ·
              replace h30 := e_f h30 hc39
              refine kwp_skip ?_
              refine kn_block ?_
              refine kn_then ?_
              refine kwp_region ?_
              refine kd (v_add) ?_
              refine kd (v_mv) ?_
              refine kops_nil ?_
              refine kn_then ?_
              obtain rfl := e_some h30
              exact ⟨_, (), rfl, hd_mk trivial⟩
          ·
            replace h30 := e_f h30 hc33
            refine kwp_exit ?_
            refine ke_then ?_
            obtain rfl := e_some h30
            refine k_out ?_ rfl
            rintro rfl
            refine ke_block ?_
            exact ⟨_, (), rfl, hd_mk trivial⟩
        · intro z40 y41 _ h42
          refine kn_then ?_
          refine kwp_seq ?_
          refine kwp_region ?_
          refine kd (v_as) ?_
          refine kops_nil ?_
          refine kn_then ?_
          refine kwp_ret ?_
          obtain rfl := e_some h42
          refine r1 [] ?_
          exact ⟨rfl, rfl⟩

set_option maxRecDepth 20000 in
set_option maxHeartbeats 2000000 in
theorem w_spec_JoinLevel (c00a : Option Addr) (c00n : Nat) (c00c : Nat) (c01a : Option Addr) (c01n : Nat) (c01c : Nat) (c02a : Option Addr) (c02n : Nat) (c02c : Nat) {c0 : Cave} {a0 : Int} {b0 : Int} {r : Int} (h : p_spec_JoinLevel c0 a0 b0 = some r) :
    Triple Try.prog 49 [.agg #[.slice c00a c00n c00c, .slice c01a c01n c01c, .slice c02a c02n c02c], .int .i64 a0, .int .i64 b0] [⟨.slice c00a c00n c00c, 1, c0.fl.map encI⟩, ⟨.slice c01a c01n c01c, 1, c0.ar.map encI⟩, ⟨.slice c02a c02n c02c, 3, c0.si.map encSill⟩] [] (fun v ch => v = .int .i64 r ∧ ch = []) := by
  refine triple_start 47 Try.func49 Try.ntmps49 rfl rfl (fun w0 => ?_)
  refine k_len (c := c00c) (fun hl1 => ?_)
  subst hl1
  refine k_len (c := c01c) (fun hl2 => ?_)
  subst hl2
  refine k_len (c := c02c) (fun hl3 => ?_)
  subst hl3
  unfold p_spec_JoinLevel at h
  refine kwp_seq ?_
  refine kwp_region ?_
  refine kk (n_box (e := [.slice c00a c0.fl.length c00c, .slice c01a c0.ar.length c01c, .slice c02a c0.si.length c02c]) 3 (fun p3_4 => ?_))
  refine kd (v_as) ?_
  refine kops_nil ?_
  refine kn_then ?_
  refine kwp_seq ?_
  refine kwp_seq ?_
  refine kwp_cutE (inv := [(1, .int .i64 a0), (2, .int .i64 b0), (3, .pointer (some p3_4))]) (fun (z : Bool) (y : Unit) => [(29, .bool z)]) (fun (z : Bool) (y : Unit) => [⟨.pointer (some p3_4), 3, [[.slice c00a c0.fl.length c00c, .slice c01a c0.ar.length c01c, .slice c02a c0.si.length c02c]]⟩]) (fun _ _ => True) h ?_ ?_
  · intro t8 h6
    refine kwp_region ?_
    refine kd (v_ldB Try.isAgg47 Try.sizeOf47) ?_
    obtain ⟨v10, hv9, h6⟩ := e_bind h6
    refine kk (n_call Try.call24 (w_spec_CaveValid c00a c0.fl.length c00c c01a c0.ar.length c01c c02a c0.si.length c02c hv9) ?_)
    rintro _ _ ⟨rfl, rfl⟩
    refine kd (v_not) ?_
    refine kd (v_mv) ?_
    refine kops_split 12 rfl (fun hb12 => ?_) (fun hb12 => ?_)
    ·
      replace h6 := e_t h6 hb12
      refine kskip hb12 ?_
      refine kskip hb12 ?_
      refine kskip hb12 ?_
      refine kskip hb12 ?_
      refine kskip hb12 ?_
      refine kskip hb12 ?_
      refine kskip hb12 ?_
      refine kd (v_pt hb12) ?_
      refine kd (v_mv) ?_
      refine kskip rfl ?_
      refine kskip rfl ?_
      refine kskip rfl ?_
      refine kskip rfl ?_
      refine kskip rfl ?_
      refine kskip rfl ?_
      refine kskip rfl ?_
      refine kd (v_pt rfl) ?_
      refine kops_nil ?_
      refine kn_then ?_
      obtain rfl := e_some h6
      exact ⟨(), hd_mk trivial⟩
    ·
      replace h6 := e_f h6 hb12
      refine kgd hb12 (v_mv) ?_
      refine kgd hb12 (v_fb fa_47_0) ?_
      refine kgd hb12 (v_ldb Try.isAgg39) ?_
      refine kgd hb12 (v_len Try.runUnderlying39) ?_
      refine kgd hb12 (v_sub) ?_
      obtain ⟨v14, hv13, h6⟩ := e_bind h6
      refine kgk hb12 (n_call Try.call56 (w_spec_l1In hv13) ?_)
      rintro _ _ ⟨rfl, rfl⟩
      refine kgd hb12 (v_not) ?_
      refine kd (v_pf hb12) ?_
      refine kd (v_mv) ?_
      refine kops_split 21 rfl (fun hb16 => ?_) (fun hb16 => ?_)
      ·
        replace h6 := e_t h6 hb16
        refine kskip hb16 ?_
        refine kskip hb16 ?_
        refine kskip hb16 ?_
        refine kskip hb16 ?_
        refine kskip hb16 ?_
        refine kskip hb16 ?_
        refine kskip hb16 ?_
        refine kd (v_pt hb16) ?_
        refine kops_nil ?_
        refine kn_then ?_
        obtain rfl := e_some h6
        exact ⟨(), hd_mk trivial⟩
      ·
        replace h6 := e_f h6 hb16
        refine kgd hb16 (v_mv) ?_
        refine kgd hb16 (v_fb fa_47_0) ?_
        refine kgd hb16 (v_ldb Try.isAgg39) ?_
        refine kgd hb16 (v_len Try.runUnderlying39) ?_
        refine kgd hb16 (v_sub) ?_
        obtain ⟨v18, hv17, h6⟩ := e_bind h6
        refine kgk hb16 (n_call Try.call56 (w_spec_l1In hv17) ?_)
        rintro _ _ ⟨rfl, rfl⟩
        refine kgd hb16 (v_not) ?_
        refine kd (v_pf hb16) ?_
        refine kops_nil ?_
        refine kn_then ?_
        obtain rfl := e_some h6
        exact ⟨(), hd_mk trivial⟩
  · intro x5 y21 _ h22
    refine kn_then ?_
    refine kwp_cond rfl (fun hc23 => ?_) (fun hc23 => ?_)
    ·
      replace h22 := e_t h22 hc23
      refine kwp_seq ?_
      refine kwp_region ?_
      refine kd (v_as) ?_
      refine kops_nil ?_
      refine kn_then ?_
      refine kwp_ret ?_
      refine kr_then ?_
      obtain rfl := e_some h22
      refine r1 [] ?_
      exact ⟨rfl, rfl⟩
    ·
      replace h22 := e_f h22 hc23
      refine kwp_skip ?_
      refine kn_then ?_
      refine kwp_seq ?_
      refine kwp_seq ?_
      refine kwp_region ?_
      refine kd (v_as) ?_
      refine kops_nil ?_
      refine kn_then ?_
      refine kwp_cutO (inv := []) (fun (z : Unit) (y : Unit) => []) (fun (z : Unit) (y : Unit) => []) (fun _ _ => True) h22 ?_ ?_
      · intro t26 h24 g25
        refine kwp_block ?_
        refine kwp_loopE (inv := [(1, .int .i64 a0), (2, .int .i64 b0), (3, .pointer (some p3_4))]) (fun (z : Int) (y : Unit) => [(7, .int .i64 z)]) (fun (z : Int) (y : Unit) => [⟨.pointer (some p3_4), 3, [[.slice c00a c0.fl.length c00c, .slice c01a c0.ar.length c01c, .slice c02a c0.si.length c02c]]⟩]) (fun _ _ => True) h24 ⟨(), hd_mk trivial⟩ ?_
        intro level27 y31 b28 _ h29
        unfold p_spec_JoinLevel_L0 at h29
        refine kwp_seq ?_
        refine kwp_seq ?_
        refine kwp_region ?_
        refine kd (v_mv) ?_
        refine kd (v_cmp) ?_
        refine kops_nil ?_
        refine kn_then ?_
        refine kwp_cond rfl (fun hc32 => ?_) (fun hc32 => ?_)
        ·
          replace h29 := e_t h29 hc32
          refine kwp_skip ?_
          refine kn_then ?_
          refine kwp_seq ?_
          refine kwp_block ?_
          refine kwp_seq ?_
          refine kwp_region ?_
          refine kd (v_ldB Try.isAgg47 Try.sizeOf47) ?_
          refine kd (v_mv) ?_
          obtain ⟨v34, hv33, h29⟩ := e_bind h29
          refine kk (n_call Try.call51 (w_spec_PoolsAt c00a c0.fl.length c00c c01a c0.ar.length c01c c02a c0.si.length c02c hv33) ?_)
          rintro _ _ ⟨q35a, q35c, rfl, rfl⟩
          refine kd (v_as) ?_
          refine kops_nil ?_
          refine kn_then ?_
          refine kwp_seq ?_
          obtain ⟨j36, ej36, nj36, h29⟩ := e_idx h29
          obtain ⟨j37, ej37, nj37, h29⟩ := e_idx h29
          refine kwp_tree (.quiet 0 (.quiet 1 (.quiet 2 (.quiet 3 (.quiet 4 (.quiet 5 (.quiet 6 (.quiet 7 (.quiet 8 .stop))))))))) [] [⟨.slice q35a v34.length q35c, 1, v34.map encI⟩] drawMixed (by kernel_rfl) nopan (by (repeat (first | exact Sub.refl _ | exact Sub.nil _ | refine Sub.chunk (by repeat (first | exact Pick.here | apply Pick.there | apply Pick.seg)) (by rfl) ?_ | refine Sub.seg (by repeat (first | exact PickSeg.here | exact PickSeg.all | apply PickSeg.there | apply PickSeg.seg)) ?_ | exact Sub.seg0 (by repeat (first | exact PickSeg.here | exact PickSeg.all | apply PickSeg.there | apply PickSeg.seg)) | apply Sub.assoc))) ?_
          refine kt_d rfl rfl rfl (v_mv) ?_
          refine kt_d rfl rfl rfl (v_mv) ?_
          refine kt_d rfl rfl rfl (v_ia ej36 nj36 Try.runUnderlying39 Try.sizeOf3) ?_
          refine kt_d rfl rfl rfl (v_ldf nj36 Try.isAgg3) ?_
          refine kt_d rfl rfl rfl (v_mv) ?_
          refine kt_d rfl rfl rfl (v_mv) ?_
          refine kt_d rfl rfl rfl (v_ia ej37 nj37 Try.runUnderlying39 Try.sizeOf3) ?_
          refine kt_d rfl rfl rfl (v_ldf nj37 Try.isAgg3) ?_
          refine kt_d rfl rfl rfl (v_cmp) ?_
          refine kt_nil ?_
          refine kn_then ?_
          refine kwp_cond rfl (fun hc38 => ?_) (fun hc38 => ?_)
          ·
            replace h29 := e_t h29 hc38
            refine kwp_seq ?_
            refine kwp_region ?_
            refine kd (v_mv) ?_
            refine kd (v_as) ?_
            refine kops_nil ?_
            refine kn_then ?_
            refine kwp_ret ?_
            refine kr_block ?_
            refine kr_then ?_
            refine kr_then ?_
            obtain rfl := e_some h29
            refine k_out ?_ rfl
            rintro rfl
            refine kr_block ?_
            refine kr_then ?_
            refine kr_then ?_
            obtain rfl := e_some g25
            refine r1 [] ?_
            exact ⟨rfl, rfl⟩
          ·
            replace h29 := e_f h29 hc38
            refine kwp_skip ?_
            refine kn_block ?_
            refine kn_then ?_
            refine kwp_region ?_
            refine kd (v_mv) ?_
            refine kd (v_add) ?_
            refine kd (v_as) ?_
            refine kops_nil ?_
            refine kn_then ?_
            obtain rfl := e_some h29
            exact ⟨_, (), rfl, hd_mk trivial⟩
        ·
          replace h29 := e_f h29 hc32
          refine kwp_exit ?_
          refine ke_then ?_
          obtain rfl := e_some h29
          refine k_out ?_ rfl
          rintro rfl
          refine ke_block ?_
          exact ⟨_, (), rfl, hd_mk trivial⟩
      · intro z39 y40 _ h41
        refine kn_then ?_
        refine kwp_seq ?_
        refine kwp_region ?_
        refine kd (v_as) ?_
        refine kops_nil ?_
        refine kn_then ?_
        refine kwp_ret ?_
        obtain rfl := e_some h41
        refine r1 [] ?_
        exact ⟨rfl, rfl⟩

set_option maxRecDepth 20000 in
theorem w_laws_FnExactJoinLevel (aC00a : Option Addr) (aC00n : Nat) (aC00c : Nat) (aC01a : Option Addr) (aC01n : Nat) (aC01c : Nat) (aC02a : Option Addr) (aC02n : Nat) (aC02c : Nat) {aC0 : Cave} {aA0 : Int} {aB0 : Int} {r : Bool} (h : p_laws_FnExactJoinLevel aC0 aA0 aB0 = some r) :
    Triple Try.prog 13 [.agg #[.slice aC00a aC00n aC00c, .slice aC01a aC01n aC01c, .slice aC02a aC02n aC02c], .int .i64 aA0, .int .i64 aB0] [⟨.slice aC00a aC00n aC00c, 1, aC0.fl.map encI⟩, ⟨.slice aC01a aC01n aC01c, 1, aC0.ar.map encI⟩, ⟨.slice aC02a aC02n aC02c, 3, aC0.si.map encSill⟩] [] (fun v ch => v = .bool r ∧ ch = []) := by
  refine triple_start 35 Try.func13 Try.ntmps13 rfl rfl (fun w0 => ?_)
  refine k_len (c := aC00c) (fun hl1 => ?_)
  subst hl1
  refine k_len (c := aC01c) (fun hl2 => ?_)
  subst hl2
  refine k_len (c := aC02c) (fun hl3 => ?_)
  subst hl3
  unfold p_laws_FnExactJoinLevel at h
  refine kwp_seq ?_
  refine kwp_region ?_
  refine kk (n_box (e := [.slice aC00a aC0.fl.length aC00c, .slice aC01a aC0.ar.length aC01c, .slice aC02a aC0.si.length aC02c]) 3 (fun p3_4 => ?_))
  refine kd (v_as) ?_
  refine kops_nil ?_
  refine kn_then ?_
  refine kwp_seq ?_
  refine kwp_region ?_
  refine kd (v_as) ?_
  refine kops_nil ?_
  refine kn_then ?_
  refine kwp_seq ?_
  refine kwp_region ?_
  refine kd (v_ldB Try.isAgg42 Try.sizeOf42) ?_
  refine kd (v_mv) ?_
  obtain ⟨v6, hv5, h⟩ := e_bind h
  refine kk (n_call Try.call23 (w_laws_szCave aC00a aC0.fl.length aC00c aC01a aC0.ar.length aC01c aC02a aC0.si.length aC02c hv5) ?_)
  rintro _ _ ⟨rfl, rfl⟩
  refine kd (v_as) ?_
  refine kops_nil ?_
  refine kn_then ?_
  refine kwp_seq ?_
  refine kwp_seq ?_
  refine kwp_region ?_
  refine kd (v_mv) ?_
  refine kd (v_cmp) ?_
  refine kops_nil ?_
  refine kn_then ?_
  refine kwp_cond rfl (fun hc8 => ?_) (fun hc8 => ?_)
  ·
    replace h := e_t h hc8
    refine kwp_seq ?_
    refine kwp_region ?_
    refine kd (v_as) ?_
    refine kops_nil ?_
    refine kn_then ?_
    refine kwp_ret ?_
    refine kr_then ?_
    obtain rfl := e_some h
    refine r1 [] ?_
    exact ⟨rfl, rfl⟩
  ·
    replace h := e_f h hc8
    refine kwp_skip ?_
    refine kn_then ?_
    refine kwp_seq ?_
    refine kwp_region ?_
    refine kd (v_ldB Try.isAgg42 Try.sizeOf42) ?_
    obtain ⟨v10, hv9, h⟩ := e_bind h
    refine kk (n_call Try.call25 (w_laws_toCave aC00a aC0.fl.length aC00c aC01a aC0.ar.length aC01c aC02a aC0.si.length aC02c hv9) ?_)
    rintro _ _ ⟨q110a, q110c, q111a, q111c, q112a, q112c, rfl, rfl⟩
    refine kd (v_mv) ?_
    refine kd (v_mv) ?_
    obtain ⟨v13, hv12, h⟩ := e_bind h
    refine kk (n_call Try.call49 (w_spec_JoinLevel q110a v10.fl.length q110c q111a v10.ar.length q111c q112a v10.si.length q112c hv12) ?_)
    rintro _ _ ⟨rfl, rfl⟩
    refine kd (v_as) ?_
    refine kops_nil ?_
    refine kn_then ?_
    refine kwp_seq ?_
    refine kwp_region ?_
    refine kd (v_ldB Try.isAgg42 Try.sizeOf42) ?_
    obtain ⟨v16, hv15, h⟩ := e_bind h
    refine kk (n_call Try.call25 (w_laws_toCave aC00a aC0.fl.length aC00c aC01a aC0.ar.length aC01c aC02a aC0.si.length aC02c hv15) ?_)
    rintro _ _ ⟨q170a, q170c, q171a, q171c, q172a, q172c, rfl, rfl⟩
    refine kops_nilchunk 1 (by decide) ?_
    refine kops_nilchunk 1 (by decide) ?_
    refine kops_nilchunk 3 (by decide) ?_
    refine kk (n_alloc (e := [.slice none 0 0, .slice none 0 0, .slice none 0 0]) 3 Try.zeroValue47 (fun p9_18 => ?_))
    refine kk (s_B (e' := [.slice q170a v16.fl.length q170c, .slice q171a v16.ar.length q171c, .slice q172a v16.si.length q172c]) Try.sizeOf47 ?_)
    refine kops_nil ?_
    refine kn_then ?_
    refine kwp_seq ?_
    refine kwp_region ?_
    refine kd (v_ldB Try.isAgg47 Try.sizeOf47) ?_
    refine kd (v_mv) ?_
    refine kd (v_mv) ?_
    obtain ⟨v20, hv19, h⟩ := e_bind h
    refine kk (n_call Try.call50 (w_impl_JoinLevel q170a v16.fl.length q170c q171a v16.ar.length q171c q172a v16.si.length q172c hv19) ?_)
    rintro _ _ ⟨rfl, rfl⟩
    refine kd (v_as) ?_
    refine kops_nil ?_
    refine kn_then ?_
    refine kwp_seq ?_
    refine kwp_seq ?_
    refine kwp_region ?_
    refine kd (v_mv) ?_
    refine kd (v_mv) ?_
    refine kd (v_cmp) ?_
    refine kops_nil ?_
    refine kn_then ?_
    refine kwp_cond rfl (fun hc22 => ?_) (fun hc22 => ?_)
    ·
      replace h := e_t h hc22
      refine kwp_seq ?_
      refine kwp_region ?_
      refine kd (v_as) ?_
      refine kops_nil ?_
      refine kn_then ?_
      refine kwp_ret ?_
      refine kr_then ?_
      obtain rfl := e_some h
      refine r1 [] ?_
      exact ⟨rfl, rfl⟩
    ·
      replace h := e_f h hc22
      refine kwp_skip ?_
      refine kn_then ?_
      refine kwp_seq ?_
      refine kwp_seq ?_
      obtain ⟨v24, hv23, h⟩ := e_bind h
      obtain ⟨v27, hv26, h⟩ := e_bind h
      refine kwp_tree (.quiet 0 (.quiet 1 (.one 2 (.one 3 (.quiet 4 .stop))))) [] [⟨.pointer (some p3_4), 3, [[.slice aC00a aC0.fl.length aC00c, .slice aC01a aC0.ar.length aC01c, .slice aC02a aC0.si.length aC02c]]⟩, ⟨.pointer (some p9_18), 3, [[.slice q170a v16.fl.length q170c, .slice q171a v16.ar.length q171c, .slice q172a v16.si.length q172c]]⟩] drawMixed (by kernel_rfl) nopan (by (repeat (first | exact Sub.refl _ | exact Sub.nil _ | refine Sub.chunk (by repeat (first | exact Pick.here | apply Pick.there | apply Pick.seg)) (by rfl) ?_ | refine Sub.seg (by repeat (first | exact PickSeg.here | exact PickSeg.all | apply PickSeg.there | apply PickSeg.seg)) ?_ | exact Sub.seg0 (by repeat (first | exact PickSeg.here | exact PickSeg.all | apply PickSeg.there | apply PickSeg.seg)) | apply Sub.assoc))) ?_
      refine kt_d rfl rfl rfl (v_ldB Try.isAgg47 Try.sizeOf47) ?_
      refine kt_d rfl rfl rfl (v_ldB Try.isAgg42 Try.sizeOf42) ?_
      refine kt_one ?_
      refine kl_k rfl rfl (n_call Try.call25 (w_laws_toCave aC00a aC0.fl.length aC00c aC01a aC0.ar.length aC01c aC02a aC0.si.length aC02c hv23) ?_)
      rintro _ _ ⟨q250a, q250c, q251a, q251c, q252a, q252c, rfl, rfl⟩
      refine ⟨.inl (by (repeat (first | exact Sub.refl _ | exact Sub.nil _ | refine Sub.chunk (by repeat (first | exact Pick.here | apply Pick.there | apply Pick.seg)) (by rfl) ?_ | refine Sub.seg (by repeat (first | exact PickSeg.here | exact PickSeg.all | apply PickSeg.there | apply PickSeg.seg)) ?_ | exact Sub.seg0 (by repeat (first | exact PickSeg.here | exact PickSeg.all | apply PickSeg.there | apply PickSeg.seg)) | apply Sub.assoc))), ?_⟩
      refine kt_one ?_
      refine kl_k rfl rfl (n_call Try.call27 (w_laws_eqCave q170a v16.fl.length q170c q171a v16.ar.length q171c q172a v16.si.length q172c q250a v24.fl.length q250c q251a v24.ar.length q251c q252a v24.si.length q252c hv26) ?_)
      rintro _ _ ⟨rfl, rfl⟩
      refine ⟨.inl (by (repeat (first | exact Sub.refl _ | exact Sub.nil _ | refine Sub.chunk (by repeat (first | exact Pick.here | apply Pick.there | apply Pick.seg)) (by rfl) ?_ | refine Sub.seg (by repeat (first | exact PickSeg.here | exact PickSeg.all | apply PickSeg.there | apply PickSeg.seg)) ?_ | exact Sub.seg0 (by repeat (first | exact PickSeg.here | exact PickSeg.all | apply PickSeg.there | apply PickSeg.seg)) | apply Sub.assoc))), ?_⟩
      refine kt_d rfl rfl rfl (v_not) ?_
      refine kt_nil ?_
      refine kn_then ?_
      refine kwp_cond rfl (fun hc29 => ?_) (fun hc29 => ?_)
      ·
        replace h := e_t h hc29
        refine kwp_seq ?_
        refine kwp_region ?_
        refine kd (v_as) ?_
        refine kops_nil ?_
        refine kn_then ?_
        refine kwp_ret ?_
        refine kr_then ?_
        obtain rfl := e_some h
        refine r1 [] ?_
        exact ⟨rfl, rfl⟩
      ·
        replace h := e_f h hc29
        refine kwp_skip ?_
        refine kn_then ?_
        refine kwp_seq ?_
        refine kwp_region ?_
        refine kd (v_as) ?_
        refine kops_nil ?_
        refine kn_then ?_
        refine kwp_ret ?_
        obtain rfl := e_some h
        refine r1 [] ?_
        exact ⟨rfl, rfl⟩

end Go.Proofs.Ytfgialdcilldiaa
