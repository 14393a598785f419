/- What the plain programs return, the functions of the program return; no condition. -/
import Derived.Test.YtpfijnklnljccaaDoorZQ
import Derived.Test.YtpfijnklnljccaaDoorZFa
import Derived.Test.YtpfijnklnljccaaDoorZVbv
namespace Go.Proofs.YtpfijnklnljccaaDoor
open Go
set_option linter.unusedVariables false
set_option linter.unusedSimpArgs false

set_option maxRecDepth 20000 in
set_option maxHeartbeats 2000000 in
theorem w_impl_MineValid (m01a : Option Addr) (m01n : Nat) (m01c : Nat) {m0 : Mine} {r : Bool} (h : p_impl_MineValid m0 = some r) :
    Triple Tryd.prog 20 [.agg #[.int .i64 m0.p, .slice m01a m01n m01c]] [⟨.slice m01a m01n m01c, 3, m0.aw.map encAirway⟩] [] (fun v ch => v = .bool r ∧ ch = []) := by
  refine triple_start 56 Tryd.func20 Tryd.ntmps20 rfl rfl (fun w0 => ?_)
  refine k_len (c := m01c) (fun hl1 => ?_)
  subst hl1
  unfold p_impl_MineValid at h
  refine kwp_seq ?_
  refine kwp_region ?_
  refine kk (n_box (e := [.int .i64 m0.p, .slice m01a m0.aw.length m01c]) 2 (fun p1_2 => ?_))
  refine kd (v_as) ?_
  refine kops_nil ?_
  refine kn_then ?_
  refine kwp_seq ?_
  refine kwp_seq ?_
  refine kwp_cutE (inv := [(1, .pointer (some p1_2))]) (fun (z : Bool) (y : Unit) => [(18, .bool z)]) (fun (z : Bool) (y : Unit) => [⟨.pointer (some p1_2), 2, [[.int .i64 m0.p, .slice m01a m0.aw.length m01c]]⟩]) (fun _ _ => True) h ?_ ?_
  · intro t6 h4
    refine kwp_region ?_
    refine kd (v_fb fa_32_0) ?_
    refine kd (v_ldb Tryd.isAgg3) ?_
    refine kd (v_cmp) ?_
    refine kd (v_mv) ?_
    refine kops_split 8 rfl (fun hb7 => ?_) (fun hb7 => ?_)
    ·
      replace h4 := e_t h4 hb7
      refine kskip hb7 ?_
      refine kskip hb7 ?_
      refine kskip hb7 ?_
      refine kd (v_pt hb7) ?_
      refine kd (v_mv) ?_
      refine kskip rfl ?_
      refine kskip rfl ?_
      refine kskip rfl ?_
      refine kskip rfl ?_
      refine kd (v_pt rfl) ?_
      refine kops_nil ?_
      refine kn_then ?_
      obtain rfl := e_some h4
      exact ⟨(), hd_mk trivial⟩
    ·
      replace h4 := e_f h4 hb7
      refine kgd hb7 (v_fb fa_32_0) ?_
      refine kgd hb7 (v_ldb Tryd.isAgg3) ?_
      refine kgd hb7 (v_cmp) ?_
      refine kd (v_pf hb7) ?_
      refine kd (v_mv) ?_
      refine kops_split 13 rfl (fun hb8 => ?_) (fun hb8 => ?_)
      ·
        replace h4 := e_t h4 hb8
        refine kskip hb8 ?_
        refine kskip hb8 ?_
        refine kskip hb8 ?_
        refine kskip hb8 ?_
        refine kd (v_pt hb8) ?_
        refine kops_nil ?_
        refine kn_then ?_
        obtain rfl := e_some h4
        exact ⟨(), hd_mk trivial⟩
      ·
        replace h4 := e_f h4 hb8
        refine kgd hb8 (v_fb fa_32_1) ?_
        refine kgd hb8 (v_ldb Tryd.isAgg30) ?_
        refine kgd hb8 (v_len Tryd.runUnderlying30) ?_
        refine kgd hb8 (v_cmp) ?_
        refine kd (v_pf hb8) ?_
        refine kops_nil ?_
        refine kn_then ?_
        obtain rfl := e_some h4
        exact ⟨(), hd_mk trivial⟩
  · intro x3 y10 _ h11
    refine kn_then ?_
    refine kwp_cond rfl (fun hc12 => ?_) (fun hc12 => ?_)
    ·
      replace h11 := e_t h11 hc12
      refine kwp_seq ?_
      refine kwp_region ?_
      refine kd (v_as) ?_
      refine kops_nil ?_
      refine kn_then ?_
      refine kwp_ret ?_
      refine kr_then ?_
      obtain rfl := e_some h11
      refine r1 [] ?_
      exact ⟨rfl, rfl⟩
    ·
      replace h11 := e_f h11 hc12
      refine kwp_skip ?_
      refine kn_then ?_
      refine kwp_seq ?_
      refine kwp_seq ?_
      refine kwp_region ?_
      refine kd (v_fb fa_32_1) ?_
      refine kd (v_ldb Tryd.isAgg30) ?_
      refine kd (v_len Tryd.runUnderlying30) ?_
      refine kd (v_mv) ?_
      refine kops_nil ?_
      refine kn_then ?_
      refine kwp_cutO (inv := []) (fun (z : Unit) (y : Unit) => []) (fun (z : Unit) (y : Unit) => []) (fun _ _ => True) h11 ?_ ?_
      · intro t15 h13 g14
        refine kwp_block ?_
        refine kwp_loopE (inv := [(1, .pointer (some p1_2)), (20, .slice m01a m0.aw.length m01c), (21, .int .i64 ((m0.aw.length : Nat) : Int))]) (fun (z : Int) (y : Unit) => [(22, .int .i64 z)]) (fun (z : Int) (y : Unit) => [⟨.pointer (some p1_2), 2, [[.int .i64 m0.p, .slice m01a m0.aw.length m01c]]⟩]) (fun _ _ => True) h13 ⟨(), hd_mk trivial⟩ ?_
        intro x16 y20 b17 _ h18
        unfold p_impl_MineValid_L0 at h18
        refine kwp_seq ?_
        refine kwp_region ?_
        refine kd (v_cmp) ?_
        refine kops_nil ?_
        refine kn_then ?_
        refine kwp_seq ?_
        refine kwp_cond rfl (fun hc21 => ?_) (fun hc21 => ?_)
        ·
          replace h18 := e_t h18 hc21
          refine kwp_skip ?_
          refine kn_then ?_
          refine kwp_seq ?_
          refine kwp_block ?_
          refine kwp_seq ?_
          refine kwp_region ?_
          obtain ⟨j22, ej22, nj22, h18⟩ := e_idx h18
          refine kd (v_ia ej22 nj22 Tryd.runUnderlying30 Tryd.sizeOf36) ?_
          refine kd (v_lda (e := [_, _, _]) nj22 Tryd.isAgg36 Tryd.sizeOf36) ?_
          refine kk (n_alloc (e := [.int .i64 0, .int .i64 0, .int .i64 0]) 3 Tryd.zeroValue36 (fun p4_23 => ?_))
          refine kk (s_B (e' := [.int .i64 ((gx m0.aw j22).f), .int .i64 ((gx m0.aw j22).t), .int .i64 ((gx m0.aw j22).w)]) Tryd.sizeOf36 ?_)
          refine kops_nil ?_
          refine kn_then ?_
          refine kwp_seq ?_
          refine kwp_seq ?_
          refine kwp_cutE (inv := [(1, .pointer (some p1_2)), (4, .pointer (some p4_23)), (20, .slice m01a m0.aw.length m01c), (21, .int .i64 ((m0.aw.length : Nat) : Int)), (22, .int .i64 x16)]) (fun (z : Bool) (y : Unit) => [(46, .bool z)]) (fun (z : Bool) (y : Unit) => [⟨.pointer (some p1_2), 2, [[.int .i64 m0.p, .slice m01a m0.aw.length m01c]]⟩, ⟨.pointer (some p4_23), 3, [[.int .i64 ((gx m0.aw j22).f), .int .i64 ((gx m0.aw j22).t), .int .i64 ((gx m0.aw j22).w)]]⟩]) (fun _ _ => True) h18 ?_ ?_
          · intro t27 h25
            refine kwp_region ?_
            refine kd (v_fb fa_36_0) ?_
            refine kd (v_ldb Tryd.isAgg3) ?_
            refine kd (v_fb fa_32_0) ?_
            refine kd (v_ldb Tryd.isAgg3) ?_
            obtain ⟨v29, hv28, h25⟩ := e_bind h25
            refine kk (n_call Tryd.call63 (w_impl_isIndex hv28) ?_)
            rintro _ _ ⟨rfl, rfl⟩
            refine kd (v_not) ?_
            refine kd (v_mv) ?_
            refine kops_split 32 rfl (fun hb31 => ?_) (fun hb31 => ?_)
            ·
              replace h25 := e_t h25 hb31
              refine kskip hb31 ?_
              refine kskip hb31 ?_
              refine kskip hb31 ?_
              refine kskip hb31 ?_
              refine kskip hb31 ?_
              refine kskip hb31 ?_
              refine kd (v_pt hb31) ?_
              refine kd (v_mv) ?_
              refine kskip rfl ?_
              refine kskip rfl ?_
              refine kskip rfl ?_
              refine kskip rfl ?_
              refine kskip rfl ?_
              refine kd (v_pt rfl) ?_
              refine kops_nil ?_
              refine kn_then ?_
              obtain rfl := e_some h25
              exact ⟨(), hd_mk trivial⟩
            ·
              replace h25 := e_f h25 hb31
              refine kgd hb31 (v_fb fa_36_1) ?_
              refine kgd hb31 (v_ldb Tryd.isAgg3) ?_
              refine kgd hb31 (v_fb fa_32_0) ?_
              refine kgd hb31 (v_ldb Tryd.isAgg3) ?_
              obtain ⟨v33, hv32, h25⟩ := e_bind h25
              refine kgk hb31 (n_call Tryd.call63 (w_impl_isIndex hv32) ?_)
              rintro _ _ ⟨rfl, rfl⟩
              refine kgd hb31 (v_not) ?_
              refine kd (v_pf hb31) ?_
              refine kd (v_mv) ?_
              refine kops_split 40 rfl (fun hb35 => ?_) (fun hb35 => ?_)
              ·
                replace h25 := e_t h25 hb35
                refine kskip hb35 ?_
                refine kskip hb35 ?_
                refine kskip hb35 ?_
                refine kskip hb35 ?_
                refine kskip hb35 ?_
                refine kd (v_pt hb35) ?_
                refine kops_nil ?_
                refine kn_then ?_
                obtain rfl := e_some h25
                exact ⟨(), hd_mk trivial⟩
              ·
                replace h25 := e_f h25 hb35
                refine kgd hb35 (v_fb fa_36_0) ?_
                refine kgd hb35 (v_ldb Tryd.isAgg3) ?_
                refine kgd hb35 (v_fb fa_36_1) ?_
                refine kgd hb35 (v_ldb Tryd.isAgg3) ?_
                refine kgd hb35 (v_cmp) ?_
                refine kd (v_pf hb35) ?_
                refine kops_nil ?_
                refine kn_then ?_
                obtain rfl := e_some h25
                exact ⟨(), hd_mk trivial⟩
          · intro x24 y37 _ h38
            refine kn_then ?_
            refine kwp_cond rfl (fun hc39 => ?_) (fun hc39 => ?_)
            ·
              replace h38 := e_t h38 hc39
              refine kwp_seq ?_
              refine kwp_region ?_
              refine kd (v_as) ?_
              refine kops_nil ?_
              refine kn_then ?_
              refine kwp_ret ?_
              refine kr_then ?_
              refine kr_block ?_
              refine kr_then ?_
              refine kr_then ?_
              obtain rfl := e_some h38
              refine k_out ?_ rfl
              rintro rfl
              refine kr_block ?_
              refine kr_then ?_
              refine kr_then ?_
              obtain rfl := e_some g14
              refine r1 [] ?_
              exact ⟨rfl, rfl⟩
            ·
              replace h38 := e_f h38 hc39
              refine kwp_skip ?_
              refine kn_then ?_
              refine kwp_seq ?_
              refine kwp_region ?_
              refine kd (v_fb fa_36_2) ?_
              refine kd (v_ldb Tryd.isAgg3) ?_
              refine kd (v_cmp) ?_
              refine kd (v_mv) ?_
              refine kops_split 50 rfl (fun hb40 => ?_) (fun hb40 => ?_)
              ·
                replace h38 := e_t h38 hb40
                refine kskip hb40 ?_
                refine kskip hb40 ?_
                refine kskip hb40 ?_
                refine kd (v_pt hb40) ?_
                refine kops_nil ?_
                refine kn_then ?_
                refine kwp_cond_t rfl rfl ?_
                refine kwp_seq ?_
                refine kwp_region ?_
                refine kd (v_as) ?_
                refine kops_nil ?_
                refine kn_then ?_
                refine kwp_ret ?_
                refine kr_block ?_
                refine kr_then ?_
                refine kr_then ?_
                obtain rfl := e_some h38
                refine k_out ?_ rfl
                rintro rfl
                refine kr_block ?_
                refine kr_then ?_
                refine kr_then ?_
                obtain rfl := e_some g14
                refine r1 [] ?_
                exact ⟨rfl, rfl⟩
              ·
                replace h38 := e_f h38 hb40
                refine kgd hb40 (v_fb fa_36_2) ?_
                refine kgd hb40 (v_ldb Tryd.isAgg3) ?_
                refine kgd hb40 (v_cmp) ?_
                refine kd (v_pf hb40) ?_
                refine kops_nil ?_
                refine kn_then ?_
                refine kwp_cond rfl (fun hc41 => ?_) (fun hc41 => ?_)
                ·
                  replace h38 := e_t h38 hc41
                  refine kwp_seq ?_
                  refine kwp_region ?_
                  refine kd (v_as) ?_
                  refine kops_nil ?_
                  refine kn_then ?_
                  refine kwp_ret ?_
                  refine kr_block ?_
                  refine kr_then ?_
                  refine kr_then ?_
                  obtain rfl := e_some h38
                  refine k_out ?_ rfl
                  rintro rfl
                  refine kr_block ?_
                  refine kr_then ?_
                  refine kr_then ?_
                  obtain rfl := e_some g14
                  refine r1 [] ?_
                  exact ⟨rfl, rfl⟩
                ·
                  replace h38 := e_f h38 hc41
                  refine kwp_skip ?_
                  refine kn_block ?_
                  refine kn_then ?_
                  refine kwp_region ?_
                  refine kd (v_add) ?_
                  refine kd (v_mv) ?_
                  refine kops_nil ?_
                  refine kn_then ?_
                  obtain rfl := e_some h38
                  exact ⟨_, (), rfl, hd_mk trivial⟩
        ·
          replace h18 := e_f h18 hc21
          refine kwp_exit ?_
          refine ke_then ?_
          obtain rfl := e_some h18
          refine k_out ?_ rfl
          rintro rfl
          refine ke_block ?_
          exact ⟨_, (), rfl, hd_mk trivial⟩
      · intro z42 y43 _ h44
        refine kn_then ?_
        refine kwp_seq ?_
        refine kwp_region ?_
        refine kd (v_as) ?_
        refine kops_nil ?_
        refine kn_then ?_
        refine kwp_ret ?_
        obtain rfl := e_some h44
        refine r1 [] ?_
        exact ⟨rfl, rfl⟩

set_option maxRecDepth 20000 in
set_option maxHeartbeats 2000000 in
theorem w_spec_MineValid (m01a : Option Addr) (m01n : Nat) (m01c : Nat) {m0 : Mine} {r : Bool} (h : p_spec_MineValid m0 = some r) :
    Triple Tryd.prog 21 [.agg #[.int .i64 m0.p, .slice m01a m01n m01c]] [⟨.slice m01a m01n m01c, 3, m0.aw.map encAirway⟩] [] (fun v ch => v = .bool r ∧ ch = []) := by
  refine triple_start 55 Tryd.func21 Tryd.ntmps21 rfl rfl (fun w0 => ?_)
  refine k_len (c := m01c) (fun hl1 => ?_)
  subst hl1
  unfold p_spec_MineValid at h
  refine kwp_seq ?_
  refine kwp_region ?_
  refine kk (n_box (e := [.int .i64 m0.p, .slice m01a m0.aw.length m01c]) 2 (fun p1_2 => ?_))
  refine kd (v_as) ?_
  refine kops_nil ?_
  refine kn_then ?_
  refine kwp_seq ?_
  refine kwp_seq ?_
  refine kwp_region ?_
  refine kd (v_as) ?_
  refine kops_nil ?_
  refine kn_then ?_
  refine kwp_cutO (inv := [(1, .pointer (some p1_2))]) (fun (z : Unit) (y : Unit) => []) (fun (z : Unit) (y : Unit) => [⟨.pointer (some p1_2), 2, [[.int .i64 m0.p, .slice m01a m0.aw.length m01c]]⟩]) (fun _ _ => True) h ?_ ?_
  · intro t5 h3 g4
    refine kwp_block ?_
    refine kwp_loopE (inv := [(1, .pointer (some p1_2))]) (fun (z : Int) (y : Unit) => [(3, .int .i64 z)]) (fun (z : Int) (y : Unit) => [⟨.pointer (some p1_2), 2, [[.int .i64 m0.p, .slice m01a m0.aw.length m01c]]⟩]) (fun _ _ => True) h3 ⟨(), hd_mk trivial⟩ ?_
    intro k6 y10 b7 _ h8
    unfold p_spec_MineValid_L0 at h8
    refine kwp_seq ?_
    refine kwp_seq ?_
    refine kwp_region ?_
    refine kd (v_mv) ?_
    refine kd (v_fb fa_32_1) ?_
    refine kd (v_ldb Tryd.isAgg30) ?_
    refine kd (v_len Tryd.runUnderlying30) ?_
    refine kd (v_cmp) ?_
    refine kops_nil ?_
    refine kn_then ?_
    refine kwp_cond rfl (fun hc11 => ?_) (fun hc11 => ?_)
    ·
      replace h8 := e_t h8 hc11
      refine kwp_skip ?_
      refine kn_then ?_
      refine kwp_seq ?_
      refine kwp_block ?_
      refine kwp_seq ?_
      refine kwp_region ?_
      refine kd (v_fb fa_32_1) ?_
      refine kd (v_ldb Tryd.isAgg30) ?_
      refine kd (v_mv) ?_
      obtain ⟨j12, ej12, nj12, h8⟩ := e_idx h8
      refine kd (v_ia ej12 nj12 Tryd.runUnderlying30 Tryd.sizeOf36) ?_
      refine kd (v_lda (e := [_, _, _]) nj12 Tryd.isAgg36 Tryd.sizeOf36) ?_
      refine kk (n_alloc (e := [.int .i64 0, .int .i64 0, .int .i64 0]) 3 Tryd.zeroValue36 (fun p4_13 => ?_))
      refine kk (s_B (e' := [.int .i64 ((gx m0.aw j12).f), .int .i64 ((gx m0.aw j12).t), .int .i64 ((gx m0.aw j12).w)]) Tryd.sizeOf36 ?_)
      refine kops_nil ?_
      refine kn_then ?_
      refine kwp_seq ?_
      refine kwp_region ?_
      refine kd (v_fb fa_36_0) ?_
      refine kd (v_ldb Tryd.isAgg3) ?_
      refine kd (v_fb fa_32_0) ?_
      refine kd (v_ldb Tryd.isAgg3) ?_
      refine kd (v_sub) ?_
      obtain ⟨v15, hv14, h8⟩ := e_bind h8
      refine kk (n_call Tryd.call60 (w_spec_l1In hv14) ?_)
      rintro _ _ ⟨rfl, rfl⟩
      refine kd (v_not) ?_
      refine kd (v_mv) ?_
      refine kops_split 24 rfl (fun hb17 => ?_) (fun hb17 => ?_)
      ·
        replace h8 := e_t h8 hb17
        refine kskip hb17 ?_
        refine kskip hb17 ?_
        refine kskip hb17 ?_
        refine kskip hb17 ?_
        refine kskip hb17 ?_
        refine kskip hb17 ?_
        refine kskip hb17 ?_
        refine kd (v_pt hb17) ?_
        refine kd (v_mv) ?_
        refine kskip rfl ?_
        refine kskip rfl ?_
        refine kskip rfl ?_
        refine kskip rfl ?_
        refine kskip rfl ?_
        refine kd (v_pt rfl) ?_
        refine kd (v_mv) ?_
        refine kskip rfl ?_
        refine kskip rfl ?_
        refine kskip rfl ?_
        refine kskip rfl ?_
        refine kd (v_pt rfl) ?_
        refine kops_nil ?_
        refine kn_then ?_
        refine kwp_cond_t rfl rfl ?_
        refine kwp_seq ?_
        refine kwp_region ?_
        refine kd (v_as) ?_
        refine kops_nil ?_
        refine kn_then ?_
        refine kwp_ret ?_
        refine kr_block ?_
        refine kr_then ?_
        refine kr_then ?_
        obtain rfl := e_some h8
        refine k_out ?_ rfl
        rintro rfl
        refine kr_block ?_
        refine kr_then ?_
        refine kr_then ?_
        obtain rfl := e_some g4
        refine r1 [] ?_
        exact ⟨rfl, rfl⟩
      ·
        replace h8 := e_f h8 hb17
        refine kgd hb17 (v_fb fa_36_1) ?_
        refine kgd hb17 (v_ldb Tryd.isAgg3) ?_
        refine kgd hb17 (v_fb fa_32_0) ?_
        refine kgd hb17 (v_ldb Tryd.isAgg3) ?_
        refine kgd hb17 (v_sub) ?_
        obtain ⟨v19, hv18, h8⟩ := e_bind h8
        refine kgk hb17 (n_call Tryd.call60 (w_spec_l1In hv18) ?_)
        rintro _ _ ⟨rfl, rfl⟩
        refine kgd hb17 (v_not) ?_
        refine kd (v_pf hb17) ?_
        refine kd (v_mv) ?_
        refine kops_split 33 rfl (fun hb21 => ?_) (fun hb21 => ?_)
        ·
          replace h8 := e_t h8 hb21
          refine kskip hb21 ?_
          refine kskip hb21 ?_
          refine kskip hb21 ?_
          refine kskip hb21 ?_
          refine kskip hb21 ?_
          refine kd (v_pt hb21) ?_
          refine kd (v_mv) ?_
          refine kskip rfl ?_
          refine kskip rfl ?_
          refine kskip rfl ?_
          refine kskip rfl ?_
          refine kd (v_pt rfl) ?_
          refine kops_nil ?_
          refine kn_then ?_
          refine kwp_cond_t rfl rfl ?_
          refine kwp_seq ?_
          refine kwp_region ?_
          refine kd (v_as) ?_
          refine kops_nil ?_
          refine kn_then ?_
          refine kwp_ret ?_
          refine kr_block ?_
          refine kr_then ?_
          refine kr_then ?_
          obtain rfl := e_some h8
          refine k_out ?_ rfl
          rintro rfl
          refine kr_block ?_
          refine kr_then ?_
          refine kr_then ?_
          obtain rfl := e_some g4
          refine r1 [] ?_
          exact ⟨rfl, rfl⟩
        ·
          replace h8 := e_f h8 hb21
          refine kgd hb21 (v_fb fa_36_0) ?_
          refine kgd hb21 (v_ldb Tryd.isAgg3) ?_
          refine kgd hb21 (v_fb fa_36_1) ?_
          refine kgd hb21 (v_ldb Tryd.isAgg3) ?_
          refine kgd hb21 (v_cmp) ?_
          refine kd (v_pf hb21) ?_
          refine kd (v_mv) ?_
          refine kops_split 40 rfl (fun hb22 => ?_) (fun hb22 => ?_)
          ·
            replace h8 := e_t h8 hb22
            refine kskip hb22 ?_
            refine kskip hb22 ?_
            refine kskip hb22 ?_
            refine kskip hb22 ?_
            refine kd (v_pt hb22) ?_
            refine kops_nil ?_
            refine kn_then ?_
            refine kwp_cond_t rfl rfl ?_
            refine kwp_seq ?_
            refine kwp_region ?_
            refine kd (v_as) ?_
            refine kops_nil ?_
            refine kn_then ?_
            refine kwp_ret ?_
            refine kr_block ?_
            refine kr_then ?_
            refine kr_then ?_
            obtain rfl := e_some h8
            refine k_out ?_ rfl
            rintro rfl
            refine kr_block ?_
            refine kr_then ?_
            refine kr_then ?_
            obtain rfl := e_some g4
            refine r1 [] ?_
            exact ⟨rfl, rfl⟩
          ·
            replace h8 := e_f h8 hb22
            refine kgd hb22 (v_fb fa_36_2) ?_
            refine kgd hb22 (v_ldb Tryd.isAgg3) ?_
            obtain ⟨v24, hv23, h8⟩ := e_bind h8
            refine kgk hb22 (n_call Tryd.call60 (w_spec_l1In hv23) ?_)
            rintro _ _ ⟨rfl, rfl⟩
            refine kgd hb22 (v_not) ?_
            refine kd (v_pf hb22) ?_
            refine kops_nil ?_
            refine kn_then ?_
            refine kwp_cond rfl (fun hc26 => ?_) (fun hc26 => ?_)
            ·
              replace h8 := e_t h8 hc26
              refine kwp_seq ?_
              refine kwp_region ?_
              refine kd (v_as) ?_
              refine kops_nil ?_
              refine kn_then ?_
              refine kwp_ret ?_
              refine kr_block ?_
              refine kr_then ?_
              refine kr_then ?_
              obtain rfl := e_some h8
              refine k_out ?_ rfl
              rintro rfl
              refine kr_block ?_
              refine kr_then ?_
              refine kr_then ?_
              obtain rfl := e_some g4
              refine r1 [] ?_
              exact ⟨rfl, rfl⟩
            ·
              replace h8 := e_f h8 hc26
              refine kwp_skip ?_
              refine kn_block ?_
              refine kn_then ?_
              refine kwp_region ?_
              refine kd (v_mv) ?_
              refine kd (v_add) ?_
              refine kd (v_as) ?_
              refine kops_nil ?_
              refine kn_then ?_
              obtain rfl := e_some h8
              exact ⟨_, (), rfl, hd_mk trivial⟩
    ·
      replace h8 := e_f h8 hc11
      refine kwp_exit ?_
      refine ke_then ?_
      obtain rfl := e_some h8
      refine k_out ?_ rfl
      rintro rfl
      refine ke_block ?_
      exact ⟨_, (), rfl, hd_mk trivial⟩
  · intro z27 y28 _ h29
    refine kn_then ?_
    refine kwp_seq ?_
    refine kwp_region ?_
    refine kd (v_fb fa_32_0) ?_
    refine kd (v_ldb Tryd.isAgg3) ?_
    obtain ⟨v31, hv30, h29⟩ := e_bind h29
    refine kk (n_call Tryd.call60 (w_spec_l1In hv30) ?_)
    rintro _ _ ⟨rfl, rfl⟩
    refine kd (v_mv) ?_
    refine kops_split 49 rfl (fun hb33 => ?_) (fun hb33 => ?_)
    ·
      replace h29 := e_t h29 hb33
      refine kgd hb33 (v_fb fa_32_1) ?_
      refine kgd hb33 (v_ldb Tryd.isAgg30) ?_
      refine kgd hb33 (v_len Tryd.runUnderlying30) ?_
      refine kgd hb33 (v_cmp) ?_
      refine kd (v_pt hb33) ?_
      refine kd (v_as) ?_
      refine kops_nil ?_
      refine kn_then ?_
      refine kwp_ret ?_
      obtain rfl := e_some h29
      refine r1 [] ?_
      exact ⟨rfl, rfl⟩
    ·
      replace h29 := e_f h29 hb33
      refine kskip hb33 ?_
      refine kskip hb33 ?_
      refine kskip hb33 ?_
      refine kskip hb33 ?_
      refine kd (v_pf hb33) ?_
      refine kd (v_as) ?_
      refine kops_nil ?_
      refine kn_then ?_
      refine kwp_ret ?_
      obtain rfl := e_some h29
      refine r1 [] ?_
      exact ⟨rfl, rfl⟩

end Go.Proofs.YtpfijnklnljccaaDoor
