/- What the plain programs return, the functions of the program return; no condition. -/
import Derived.Test.YtpfijnklnljccaaDoorZQ
import Derived.Test.YtpfijnklnljccaaDoorZFa
import Derived.Test.YtpfijnklnljccaaDoorZVbv
namespace Go.Proofs.YtpfijnklnljccaaDoor
open Go
set_option linter.unusedVariables false
set_option linter.unusedSimpArgs false

set_option maxRecDepth 20000 in
set_option maxHeartbeats 2000000 in
theorem w_impl_MineValid (m01a : Option Addr) (m01n : Nat) (m01c : Nat) {m0 : Mine} {r : Bool} (h : p_impl_MineValid m0 = some r) :
    Triple Tryd.prog 20 [.agg #[.int .i64 m0.p, .slice m01a m01n m01c]] [⟨.slice m01a m01n m01c, 3, m0.aw.map encAirway⟩] [] (fun v ch => v = .bool r ∧ ch = []) := by
  refine triple_start 56 Tryd.func20 Tryd.ntmps20 rfl rfl (fun w0 => ?_)
  refine k_len (c := m01c) (fun hl1 => ?_)
  subst hl1
  unfold p_impl_MineValid at h
  refine kwp_seq ?_
  refine kwp_region ?_
  refine kk (n_box (e := [.int .i64 m0.p, .slice m01a m0.aw.length m01c]) 2 (fun p1_2 => ?_))
  refine kd (v_as) ?_
  refine kops_nil ?_
  refine kn_then ?_
  refine kwp_seq ?_
  refine kwp_seq ?_
  refine kwp_cutE (inv := [(1, .pointer (some p1_2))]) (fun (z : Bool) (y : Unit) => [(18, .bool z)]) (fun (z : Bool) (y : Unit) => [⟨.pointer (some p1_2), 2, [[.int .i64 m0.p, .slice m01a m0.aw.length m01c]]⟩]) (fun _ _ => True) h ?_ ?_
  · intro t6 h4
    refine kwp_region ?_
    refine kd (v_fb fa_32_0) ?_
    refine kd (v_ldb Tryd.isAgg3) ?_
    refine kd (v_cmp) ?_
    refine kd (v_mv) ?_
    refine kops_split 8 rfl (fun hb7 => ?_) (fun hb7 => ?_)
    ·
      replace h4 := e_t h4 hb7
      refine kskip hb7 ?_
      refine kskip hb7 ?_
      refine kskip hb7 ?_
      refine kd (v_pt hb7) ?_
      refine kd (v_mv) ?_
      refine kskip rfl ?_
      refine kskip rfl ?_
      refine kskip rfl ?_
      refine kskip rfl ?_
      refine kd (v_pt rfl) ?_
      refine kops_nil ?_
      refine kn_then ?_
      obtain rfl := e_some h4
      exact ⟨(), hd_mk trivial⟩
    ·
      replace h4 := e_f h4 hb7
      refine kgd hb7 (v_fb fa_32_0) ?_
      refine kgd hb7 (v_ldb Tryd.isAgg3) ?_
      refine kgd hb7 (v_cmp) ?_
      refine kd (v_pf hb7) ?_
      refine kd (v_mv) ?_
      refine kops_split 13 rfl (fun hb8 => ?_) (fun hb8 => ?_)
      ·
        replace h4 := e_t h4 hb8
        refine kskip hb8 ?_
        refine kskip hb8 ?_
        refine kskip hb8 ?_
        refine kskip hb8 ?_
        refine kd (v_pt hb8) ?_
        refine kops_nil ?_
        refine kn_then ?_
        obtain rfl := e_some h4
        exact ⟨(), hd_mk trivial⟩
      ·
        replace h4 := e_f h4 hb8
        refine kgd hb8 (v_fb fa_32_1) ?_
        refine kgd hb8 (v_ldb Tryd.isAgg30) ?_
        refine kgd hb8 (v_len Tryd.runUnderlying30) ?_
        refine kgd hb8 (v_cmp) ?_
        refine kd (v_pf hb8) ?_
        refine kops_nil ?_
        refine kn_then ?_
        obtain rfl := e_some h4
        exact ⟨(), hd_mk trivial⟩
  · intro x3 y10 _ h11
    refine kn_then ?_
    refine kwp_cond rfl (fun hc12 => ?_) (fun hc12 => ?_)
    ·
      replace h11 := e_t h11 hc12
      refine kwp_seq ?_
      refine kwp_region ?_
      refine kd (v_as) ?_
      refine kops_nil ?_
      refine kn_then ?_
      refine kwp_ret ?_
      refine kr_then ?_
      obtain rfl := e_some h11
      refine r1 [] ?_
      exact ⟨rfl, rfl⟩
    ·
      replace h11 := e_f h11 hc12
      refine kwp_skip ?_
      refine kn_then ?_
      refine kwp_seq ?_
      refine kwp_seq ?_
      refine kwp_region ?_
      refine kd (v_fb fa_32_1) ?_
      refine kd (v_ldb Tryd.isAgg30) ?_
      refine kd (v_len Tryd.runUnderlying30) ?_
      refine kd (v_mv) ?_
      refine kops_nil ?_
      refine kn_then ?_
      refine kwp_cutO (inv := []) (fun (z : Unit) (y : Unit) => []) (fun (z : Unit) (y : Unit) => []) (fun _ _ => True) h11 ?_ ?_
      · intro t15 h13 g14
        refine kwp_block ?_
        refine kwp_loopE (inv := [(1, .pointer (some p1_2)), (20, .slice m01a m0.aw.length m01c), (21, .int .i64 ((m0.aw.length : Nat) : Int))]) (fun (z : Int) (y : Unit) => [(22, .int .i64 z)]) (fun (z : Int) (y : Unit) => [⟨.pointer (some p1_2), 2, [[.int .i64 m0.p, .slice m01a m0.aw.length m01c]]⟩]) (fun _ _ => True) h13 ⟨(), hd_mk trivial⟩ ?_
        intro x16 y20 b17 _ h18
        unfold p_impl_MineValid_L0 at h18
        refine kwp_seq ?_
        refine kwp_region ?_
        refine kd (v_cmp) ?_
        refine kops_nil ?_
        refine kn_then ?_
        refine kwp_seq ?_
        refine kwp_cond rfl (fun hc21 => ?_) (fun hc21 => ?_)
        ·
          replace h18 := e_t h18 hc21
          refine kwp_skip ?_
          refine kn_then ?_
          refine kwp_seq ?_
          refine kwp_block ?_
          refine kwp_seq ?_
          refine kwp_region ?_
          obtain ⟨j22, ej22, nj22, h18⟩ := e_idx h18
          refine kd (v_ia ej22 nj22 Tryd.runUnderlying30 Tryd.sizeOf36) ?_
          refine kd (v_lda (e := [_, _, _]) nj22 Tryd.isAgg36 Tryd.sizeOf36) ?_
          refine kk (n_alloc (e := [.int .i64 0, .int .i64 0, .int .i64 0]) 3 Tryd.zeroValue36 (fun p4_23 => ?_))
          refine kk (s_B (e' := [.int .i64 ((gx m0.aw j22).f), .int .i64 ((gx m0.aw j22).t), .int .i64 ((gx m0.aw j22).w)]) Tryd.sizeOf36 ?_)
          refine kops_nil ?_
          refine kn_then ?_
          refine kwp_seq ?_
          refine kwp_seq ?_
          refine kwp_cutE (inv := [(1, .pointer (some p1_2)), (4, .pointer (some p4_23)), (20, .slice m01a m0.aw.length m01c), (21, .int .i64 ((m0.aw.length : Nat) : Int)), (22, .int .i64 x16)]) (fun (z : Bool) (y : Unit) => [(46, .bool z)]) (fun (z : Bool) (y : Unit) => [⟨.pointer (some p1_2), 2, [[.int .i64 m0.p, .slice m01a m0.aw.length m01c]]⟩, ⟨.pointer (some p4_23), 3, [[.int .i64 ((gx m0.aw j22).f), .int .i64 ((gx m0.aw j22).t), .int .i64 ((gx m0.aw j22).w)]]⟩]) (fun _ _ => True) h18 ?_ ?_
          · intro t27 h25
            refine kwp_region ?_
            refine kd (v_fb fa_36_0) ?_
            refine kd (v_ldb Tryd.isAgg3) ?_
            refine kd (v_fb fa_32_0) ?_
            refine kd (v_ldb Tryd.isAgg3) ?_
            obtain ⟨v29, hv28, h25⟩ := e_bind h25
            refine kk (n_call Tryd.call63 (w_impl_isIndex hv28) ?_)
            rintro _ _ ⟨rfl, rfl⟩
            refine kd (v_not) ?_
            refine kd (v_mv) ?_
            refine kops_split 32 rfl (fun hb31 => ?_) (fun hb31 => ?_)
            ·
              replace h25 := e_t h25 hb31
              refine kskip hb31 ?_
              refine kskip hb31 ?_
              refine kskip hb31 ?_
              refine kskip hb31 ?_
              refine kskip hb31 ?_
              refine kskip hb31 ?_
              refine kd (v_pt hb31) ?_
              refine kd (v_mv) ?_
              refine kskip rfl ?_
              refine kskip rfl ?_
              refine kskip rfl ?_
              refine kskip rfl ?_
              refine kskip rfl ?_
              refine kd (v_pt rfl) ?_
              refine kops_nil ?_
              refine kn_then ?_
              obtain rfl := e_some h25
              exact ⟨(), hd_mk trivial⟩
            ·
              replace h25 := e_f h25 hb31
              refine kgd hb31 (v_fb fa_36_1) ?_
              refine kgd hb31 (v_ldb Tryd.isAgg3) ?_
              refine kgd hb31 (v_fb fa_32_0) ?_
              refine kgd hb31 (v_ldb Tryd.isAgg3) ?_
              obtain ⟨v33, hv32, h25⟩ := e_bind h25
              refine kgk hb31 (n_call Tryd.call63 (w_impl_isIndex hv32) ?_)
              rintro _ _ ⟨rfl, rfl⟩
              refine kgd hb31 (v_not) ?_
              refine kd (v_pf hb31) ?_
              refine kd (v_mv) ?_
              refine kops_split 40 rfl (fun hb35 => ?_) (fun hb35 => ?_)
              ·
                replace h25 := e_t h25 hb35
                refine kskip hb35 ?_
                refine kskip hb35 ?_
                refine kskip hb35 ?_
                refine kskip hb35 ?_
                refine kskip hb35 ?_
                refine kd (v_pt hb35) ?_
                refine kops_nil ?_
                refine kn_then ?_
                obtain rfl := e_some h25
                exact ⟨(), hd_mk trivial⟩
              ·
                replace h25 := e_f h25 hb35
                refine kgd hb35 (v_fb fa_36_0) ?_
                refine kgd hb35 (v_ldb Tryd.isAgg3) ?_
                refine kgd hb35 (v_fb fa_36_1) ?_
                refine kgd hb35 (v_ldb Tryd.isAgg3) ?_
                refine kgd hb35 (v_cmp) ?_
                refine kd (v_pf hb35) ?_
                refine kops_nil ?_
                refine kn_then ?_
                obtain rfl := e_some h25
                exact ⟨(), hd_mk trivial⟩
          · intro x24 y37 _ h38
            refine kn_then ?_
            refine kwp_cond rfl (fun hc39 => ?_) (fun hc39 => ?_)
            ·
              replace h38 := e_t h38 hc39
              refine kwp_seq ?_
              refine kwp_region ?_
              refine kd (v_as) ?_
              refine kops_nil ?_
              refine kn_then ?_
              refine kwp_ret ?_
              refine kr_then ?_
              refine kr_block ?_
              refine kr_then ?_
              refine kr_then ?_
              obtain rfl := e_some h38
              refine k_out ?_ rfl
              rintro rfl
              refine kr_block ?_
              refine kr_then ?_
              refine kr_then ?_
              obtain rfl := e_some g14
              refine r1 [] ?_
              exact ⟨rfl, rfl⟩
            ·
              replace h38 := e_f h38 hc39
              refine kwp_skip ?_
              refine kn_then ?_
              refine kwp_seq ?_
              refine kwp_region ?_
              refine kd (v_fb fa_36_2) ?_
              refine kd (v_ldb Tryd.isAgg3) ?_
              refine kd (v_cmp) ?_
              refine kd (v_mv) ?_
              refine kops_split 50 rfl (fun hb40 => ?_) (fun hb40 => ?_)
              ·
                replace h38 := e_t h38 hb40
                refine kskip hb40 ?_
                refine kskip hb40 ?_
                refine kskip hb40 ?_
                refine kd (v_pt hb40) ?_
                refine kops_nil ?_
                refine kn_then ?_
                refine kwp_cond_t rfl rfl ?_
                refine kwp_seq ?_
                refine kwp_region ?_
                refine kd (v_as) ?_
                refine kops_nil ?_
                refine kn_then ?_
                refine kwp_ret ?_
                refine kr_block ?_
                refine kr_then ?_
                refine kr_then ?_
                obtain rfl := e_some h38
                refine k_out ?_ rfl
                rintro rfl
                refine kr_block ?_
                refine kr_then ?_
                refine kr_then ?_
                obtain rfl := e_some g14
                refine r1 [] ?_
                exact ⟨rfl, rfl⟩
              ·
                replace h38 := e_f h38 hb40
                refine kgd hb40 (v_fb fa_36_2) ?_
                refine kgd hb40 (v_ldb Tryd.isAgg3) ?_
                refine kgd hb40 (v_cmp) ?_
                refine kd (v_pf hb40) ?_
                refine kops_nil ?_
                refine kn_then ?_
                refine kwp_cond rfl (fun hc41 => ?_) (fun hc41 => ?_)
                ·
                  replace h38 := e_t h38 hc41
                  refine kwp_seq ?_
                  refine kwp_region ?_
                  refine kd (v_as) ?_
                  refine kops_nil ?_
                  refine kn_then ?_
                  refine kwp_ret ?_
                  refine kr_block ?_
                  refine kr_then ?_
                  refine kr_then ?_
                  obtain rfl := e_some h38
                  refine k_out ?_ rfl
                  rintro rfl
                  refine kr_block ?_
                  refine kr_then ?_
                  refine kr_then ?_
                  obtain rfl := e_some g14
                  refine r1 [] ?_
                  exact ⟨rfl, rfl⟩
                ·
                  replace h38 := e_f h38 hc41
                  refine kwp_skip ?_
                  refine kn_block ?_
                  refine kn_then ?_
                  refine kwp_region ?_
                  refine kd (v_add) ?_
                  refine kd (v_mv) ?_
                  refine kops_nil ?_
                  refine kn_then ?_
                  obtain rfl := e_some h38
                  exact ⟨_, (), rfl, hd_mk trivial⟩
        ·
          replace h18 := e_f h18 hc21
          refine kwp_exit ?_
          refine ke_then ?_
          obtain rfl := e_some h18
          refine k_out ?_ rfl
          rintro rfl
          refine ke_block ?_
          exact ⟨_, (), rfl, hd_mk trivial⟩
      · intro z42 y43 _ h44
        refine kn_then ?_
        refine kwp_seq ?_
        refine kwp_region ?_
        refine kd (v_as) ?_
        refine kops_nil ?_
        refine kn_then ?_
        refine kwp_ret ?_
        obtain rfl := e_some h44
        refine r1 [] ?_
        exact ⟨rfl, rfl⟩

set_option maxRecDepth 20000 in
set_option maxHeartbeats 2000000 in
theorem w_spec_MineValid (m01a : Option Addr) (m01n : Nat) (m01c : Nat) {m0 : Mine} {r : Bool} (h : p_spec_MineValid m0 = some r) :
    Triple Tryd.prog 21 [.agg #[.int .i64 m0.p, .slice m01a m01n m01c]] [⟨.slice m01a m01n m01c, 3, m0.aw.map encAirway⟩] [] (fun v ch => v = .bool r ∧ ch = []) := by
  refine triple_start 55 Tryd.func21 Tryd.ntmps21 rfl rfl (fun w0 => ?_)
  refine k_len (c := m01c) (fun hl1 => ?_)
  subst hl1
  unfold p_spec_MineValid at h
  refine kwp_seq ?_
  refine kwp_region ?_
  refine kk (n_box (e := [.int .i64 m0.p, .slice m01a m0.aw.length m01c]) 2 (fun p1_2 => ?_))
  refine kd (v_as) ?_
  refine kops_nil ?_
  refine kn_then ?_
  refine kwp_seq ?_
  refine kwp_seq ?_
  refine kwp_region ?_
  refine kd (v_as) ?_
  refine kops_nil ?_
  refine kn_then ?_
  refine kwp_cutO (inv := [(1, .pointer (some p1_2))]) (fun (z : Unit) (y : Unit) => []) (fun (z : Unit) (y : Unit) => [⟨.pointer (some p1_2), 2, [[.int .i64 m0.p, .slice m01a m0.aw.length m01c]]⟩]) (fun _ _ => True) h ?_ ?_
  · intro t5 h3 g4
    refine kwp_block ?_
    refine kwp_loopE (inv := [(1, .pointer (some p1_2))]) (fun (z : Int) (y : Unit) => [(3, .int .i64 z)]) (fun (z : Int) (y : Unit) => [⟨.pointer (some p1_2), 2, [[.int .i64 m0.p, .slice m01a m0.aw.length m01c]]⟩]) (fun _ _ => True) h3 ⟨(), hd_mk trivial⟩ ?_
    intro k6 y10 b7 _ h8
    unfold p_spec_MineValid_L0 at h8
    refine kwp_seq ?_
    refine kwp_seq ?_
    refine kwp_region ?_
    refine kd (v_mv) ?_
    refine kd (v_fb fa_32_1) ?_
    refine kd (v_ldb Tryd.isAgg30) ?_
    refine kd (v_len Tryd.runUnderlying30) ?_
    refine kd (v_cmp) ?_
    refine kops_nil ?_
    refine kn_then ?_
    refine kwp_cond rfl (fun hc11 => ?_) (fun hc11 => ?_)
    ·
      replace h8 := e_t h8 hc11
      refine kwp_skip ?_
      refine kn_then ?_
      refine kwp_seq ?_
      refine kwp_block ?_
      refine kwp_seq ?_
      refine kwp_region ?_
      refine kd (v_fb fa_32_1) ?_
      refine kd (v_ldb Tryd.isAgg30) ?_
      refine kd (v_mv) ?_
      obtain ⟨j12, ej12, nj12, h8⟩ := e_idx h8
      refine kd (v_ia ej12 nj12 Tryd.runUnderlying30 Tryd.sizeOf36) ?_
      refine kd (v_lda (e := [_, _, _]) nj12 Tryd.isAgg36 Tryd.sizeOf36) ?_
      refine kk (n_alloc (e := [.int .i64 0, .int .i64 0, .int .i64 0]) 3 Tryd.zeroValue36 (fun p4_13 => ?_))
      refine kk (s_B (e' := [.int .i64 ((gx m0.aw j12).f), .int .i64 ((gx m0.aw j12).t), .int .i64 ((gx m0.aw j12).w)]) Tryd.sizeOf36 ?_)
      refine kops_nil ?_
      refine kn_then ?_
      refine kwp_seq ?_
      refine kwp_region ?_
      refine kd (v_fb fa_36_0) ?_
      refine kd (v_ldb Tryd.isAgg3) ?_
      refine kd (v_fb fa_32_0) ?_
      refine kd (v_ldb Tryd.isAgg3) ?_
      refine kd (v_sub) ?_
      obtain ⟨v15, hv14, h8⟩ := e_bind h8
      refine kk (n_call Tryd.call60 (w_spec_l1In hv14) ?_)
      rintro _ _ ⟨rfl, rfl⟩
      refine kd (v_not) ?_
      refine kd (v_mv) ?_
      refine kops_split 24 rfl (fun hb17 => ?_) (fun hb17 => ?_)
      ·
        replace h8 := e_t h8 hb17
        refine kskip hb17 ?_
        refine kskip hb17 ?_
        refine kskip hb17 ?_
        refine kskip hb17 ?_
        refine kskip hb17 ?_
        refine kskip hb17 ?_
        refine kskip hb17 ?_
        refine kd (v_pt hb17) ?_
        refine kd (v_mv) ?_
        refine kskip rfl ?_
        refine kskip rfl ?_
        refine kskip rfl ?_
        refine kskip rfl ?_
        refine kskip rfl ?_
        refine kd (v_pt rfl) ?_
        refine kd (v_mv) ?_
        refine kskip rfl ?_
        refine kskip rfl ?_
        refine kskip rfl ?_
        refine kskip rfl ?_
        refine kd (v_pt rfl) ?_
        refine kops_nil ?_
        refine kn_then ?_
        refine kwp_cond_t rfl rfl ?_
        refine kwp_seq ?_
        refine kwp_region ?_
        refine kd (v_as) ?_
        refine kops_nil ?_
        refine kn_then ?_
        refine kwp_ret ?_
        refine kr_block ?_
        refine kr_then ?_
        refine kr_then ?_
        obtain rfl := e_some h8
        refine k_out ?_ rfl
        rintro rfl
        refine kr_block ?_
        refine kr_then ?_
        refine kr_then ?_
        obtain rfl := e_some g4
        refine r1 [] ?_
        exact ⟨rfl, rfl⟩
      ·
        replace h8 := e_f h8 hb17
        refine kgd hb17 (v_fb fa_36_1) ?_
        refine kgd hb17 (v_ldb Tryd.isAgg3) ?_
        refine kgd hb17 (v_fb fa_32_0) ?_
        refine kgd hb17 (v_ldb Tryd.isAgg3) ?_
        refine kgd hb17 (v_sub) ?_
        obtain ⟨v19, hv18, h8⟩ := e_bind h8
        refine kgk hb17 (n_call Tryd.call60 (w_spec_l1In hv18) ?_)
        rintro _ _ ⟨rfl, rfl⟩
        refine kgd hb17 (v_not) ?_
        refine kd (v_pf hb17) ?_
        refine kd (v_mv) ?_
        refine kops_split 33 rfl (fun hb21 => ?_) (fun hb21 => ?_)
        ·
          replace h8 := e_t h8 hb21
          refine kskip hb21 ?_
          refine kskip hb21 ?_
          refine kskip hb21 ?_
          refine kskip hb21 ?_
          refine kskip hb21 ?_
          refine kd (v_pt hb21) ?_
          refine kd (v_mv) ?_
          refine kskip rfl ?_
          refine kskip rfl ?_
          refine kskip rfl ?_
          refine kskip rfl ?_
          refine kd (v_pt rfl) ?_
          refine kops_nil ?_
          refine kn_then ?_
          refine kwp_cond_t rfl rfl ?_
          refine kwp_seq ?_
          refine kwp_region ?_
          refine kd (v_as) ?_
          refine kops_nil ?_
          refine kn_then ?_
          refine kwp_ret ?_
          refine kr_block ?_
          refine kr_then ?_
          refine kr_then ?_
          obtain rfl := e_some h8
          refine k_out ?_ rfl
          rintro rfl
          refine kr_block ?_
          refine kr_then ?_
          refine kr_then ?_
          obtain rfl := e_some g4
          refine r1 [] ?_
          exact ⟨rfl, rfl⟩
        ·
          replace h8 := e_f h8 hb21
          refine kgd hb21 (v_fb fa_36_0) ?_
          refine kgd hb21 (v_ldb Tryd.isAgg3) ?_
          refine kgd hb21 (v_fb fa_36_1) ?_
          refine kgd hb21 (v_ldb Tryd.isAgg3) ?_
          refine kgd hb21 (v_cmp) ?_
          refine kd (v_pf hb21) ?_
          refine kd (v_mv) ?_
          refine kops_split 40 rfl (fun hb22 => ?_) (fun hb22 => ?_)
          ·
            replace h8 := e_t h8 hb22
            refine kskip hb22 ?_
            refine kskip hb22 ?_
            refine kskip hb22 ?_
            refine kskip hb22 ?_
            refine kd (v_pt hb22) ?_
            refine kops_nil ?_
            refine kn_then ?_
            refine kwp_cond_t rfl rfl ?_
            refine kwp_seq ?_
            refine kwp_region ?_
            refine kd (v_as) ?_
            refine kops_nil ?_
            refine kn_then ?_
            refine kwp_ret ?_
            refine kr_block ?_
            refine kr_then ?_
            refine kr_then ?_
            obtain rfl := e_some h8
            refine k_out ?_ rfl
            rintro rfl
            refine kr_block ?_
            refine kr_then ?_
            refine kr_then ?_
            obtain rfl := e_some g4
            refine r1 [] ?_
            exact ⟨rfl, rfl⟩
          ·
            replace h8 := e_f h8 hb22
            refine kgd hb22 (v_fb fa_36_2) ?_
            refine kgd hb22 (v_ldb Tryd.isAgg3) ?_
            obtain ⟨v24, hv23, h8⟩ := e_bind h8
            refine kgk hb22 (n_call Tryd.call60 (w_spec_l1In hv23) ?_)
            rintro _ _ ⟨rfl, rfl⟩
            refine kgd hb22 (v_not) ?_
            refine kd (v_pf hb22) ?_
            refine kops_nil ?_
            refine kn_then ?_
            refine kwp_cond rfl (fun hc26 => ?_) (fun hc26 => ?_)
            ·
              replace h8 := e_t h8 hc26
              refine kwp_seq ?_
              refine kwp_region ?_
              refine kd (v_as) ?_
              refine kops_nil ?_
              refine kn_then ?_
              refine kwp_ret ?_
              refine kr_block ?_
              refine kr_then ?_
              refine kr_then ?_
              obtain rfl := e_some h8
              refine k_out ?_ rfl
              rintro rfl
              refine kr_block ?_
              refine kr_then ?_
              refine kr_then ?_
              obtain rfl := e_some g4
              refine r1 [] ?_
              exact ⟨rfl, rfl⟩
            ·
              replace h8 := e_f h8 hc26
              refine kwp_skip ?_
              refine kn_block ?_
              refine kn_then ?_
              refine kwp_region ?_
              refine kd (v_mv) ?_
              refine kd (v_add) ?_
              refine kd (v_as) ?_
              refine kops_nil ?_
              refine kn_then ?_
              obtain rfl := e_some h8
              exact ⟨_, (), rfl, hd_mk trivial⟩
    ·
      replace h8 := e_f h8 hc11
      refine kwp_exit ?_
      refine ke_then ?_
      obtain rfl := e_some h8
      refine k_out ?_ rfl
      rintro rfl
      refine ke_block ?_
      exact ⟨_, (), rfl, hd_mk trivial⟩
  · intro z27 y28 _ h29
    refine kn_then ?_
    refine kwp_seq ?_
    refine kwp_region ?_
    refine kd (v_fb fa_32_0) ?_
    refine kd (v_ldb Tryd.isAgg3) ?_
    obtain ⟨v31, hv30, h29⟩ := e_bind h29
    refine kk (n_call Tryd.call60 (w_spec_l1In hv30) ?_)
    rintro _ _ ⟨rfl, rfl⟩
    refine kd (v_mv) ?_
    refine kops_split 49 rfl (fun hb33 => ?_) (fun hb33 => ?_)
    ·
      replace h29 := e_t h29 hb33
      refine kgd hb33 (v_fb fa_32_1) ?_
      refine kgd hb33 (v_ldb Tryd.isAgg30) ?_
      refine kgd hb33 (v_len Tryd.runUnderlying30) ?_
      refine kgd hb33 (v_cmp) ?_
      refine kd (v_pt hb33) ?_
      refine kd (v_as) ?_
      refine kops_nil ?_
      refine kn_then ?_
      refine kwp_ret ?_
      obtain rfl := e_some h29
      refine r1 [] ?_
      exact ⟨rfl, rfl⟩
    ·
      replace h29 := e_f h29 hb33
      refine kskip hb33 ?_
      refine kskip hb33 ?_
      refine kskip hb33 ?_
      refine kskip hb33 ?_
      refine kd (v_pf hb33) ?_
      refine kd (v_as) ?_
      refine kops_nil ?_
      refine kn_then ?_
      refine kwp_ret ?_
      obtain rfl := e_some h29
      refine r1 [] ?_
      exact ⟨rfl, rfl⟩

set_option maxRecDepth 20000 in
theorem w_impl_squareOf  {many0 : Int} {r : List (List Int)} (h : p_impl_squareOf many0 = some r) :
    Triple Tryd.prog 69 [.int .i64 many0] [] [] (fun v ch => ∃ (w0a : Option Addr) (w0c : Nat) (w0R : List Row), v = .slice w0a r.length w0c ∧ nums w0R = r ∧ ch = (⟨.slice w0a r.length w0c, 1, w0R.map encRow⟩ :: (rowsC w0R))) := by
  refine triple_start 19 Tryd.func69 Tryd.ntmps69 rfl rfl (fun w0 => ?_)
  unfold p_impl_squareOf at h
  refine kwp_seq ?_
  refine kwp_region ?_
  refine kops_nilM (fun R1 hR1 => ?_)
  refine kd (v_as) ?_
  refine kops_nil ?_
  refine kn_then ?_
  refine kwp_seq ?_
  refine kwp_region ?_
  refine kd (v_mv) ?_
  obtain ⟨j2, ej2, nj2, h⟩ := e_sized h
  refine kk (n_makeM ej2 nj2 Tryd.underlying42 Tryd.type46 (by decide) (fun a3 R4 hR4 => ?_))
  refine kd (v_as) ?_
  refine kops_nil ?_
  refine kn_then ?_
  refine kwp_seq ?_
  refine kwp_seq ?_
  refine kwp_region ?_
  refine kd (v_mv) ?_
  refine kd (v_len Tryd.runUnderlying42) ?_
  refine kd (v_mv) ?_
  refine kops_nil ?_
  refine kn_then ?_
  refine kwp_cutE (inv := [(3, .slice (some a3) j2 j2)]) (fun (z : List (List Int)) (y : List Row) => []) (fun (z : List (List Int)) (y : List Row) => (⟨.slice (some a3) j2 j2, 1, y.map encRow⟩ :: (rowsC y))) (fun (z : List (List Int)) (y : List Row) => nums y = z ∧ True) h ?_ ?_
  · intro t8 h6
    refine kwp_block ?_
    refine kwp_loopE (inv := [(0, .int .i64 many0), (3, .slice (some a3) j2 j2), (8, .int .i64 ((j2 : Nat) : Int))]) (fun (z : Int × List (List Int)) (y : List Row) => [(9, .int .i64 z.1)]) (fun (z : Int × List (List Int)) (y : List Row) => (⟨.slice (some a3) j2 j2, 1, y.map encRow⟩ :: (rowsC y))) (fun (z : Int × List (List Int)) (y : List Row) => nums y = z.2 ∧ True) h6 ⟨R4, hd_mk ⟨hR4, trivial⟩⟩ ?_
    intro z13 m10R b11 hp15 h12
    obtain ⟨x9, m10⟩ := z13
    obtain ⟨hm10R, _⟩ := hp15
    refine k_lenM (m := m10) hm10R (fun hl16 => ?_)
    unfold p_impl_squareOf_L0 at h12
    refine kwp_seq ?_
    refine kwp_region ?_
    refine kd (v_cmp) ?_
    refine kops_nil ?_
    refine kn_then ?_
    refine kwp_seq ?_
    refine kwp_cond rfl (fun hc17 => ?_) (fun hc17 => ?_)
    ·
      replace h12 := e_t h12 hc17
      refine kwp_skip ?_
      refine kn_then ?_
      refine kwp_seq ?_
      refine kwp_block ?_
      refine kwp_seq ?_
      refine kwp_region ?_
      refine kd (v_mv) ?_
      refine kd (v_as) ?_
      refine kops_nil ?_
      refine kn_then ?_
      refine kwp_region ?_
      refine kd (v_mv) ?_
      refine kd (v_mv) ?_
      refine kd (v_mv) ?_
      obtain ⟨j18, ej18, nj18, h12⟩ := e_sized h12
      refine kk (n_make (enc := encI) 0 ej18 nj18 Tryd.underlying46 Tryd.type3 (by decide) (fun a19 => ?_))
      obtain ⟨j20, ej20, nj20, h12⟩ := e_idx h12
      refine kd (v_ia ej20 nj20 Tryd.runUnderlying42 Tryd.sizeOf46) ?_
      refine kk (s_setrow (l := (List.replicate j18 0)) nj20 hm10R Tryd.sizeOf46 (fun R21 hR21 => ?_))
      refine kops_nil ?_
      refine kn_block ?_
      refine kn_then ?_
      refine kwp_region ?_
      refine kd (v_add) ?_
      refine kd (v_mv) ?_
      refine kops_nil ?_
      refine kn_then ?_
      obtain rfl := e_some h12
      exact ⟨_, R21, rfl, hd_mk ⟨hR21, trivial⟩⟩
    ·
      replace h12 := e_f h12 hc17
      refine kwp_exit ?_
      refine ke_then ?_
      obtain rfl := e_some h12
      refine k_out ?_ rfl
      rintro rfl
      refine ke_block ?_
      exact ⟨m10R, hd_mk ⟨hm10R, trivial⟩⟩
  · intro m5 m5R hp25 h24
    obtain ⟨hm5R, _⟩ := hp25
    refine k_lenM (m := m5) hm5R (fun hl26 => ?_)
    refine kwp_seq ?_
    refine kwp_region ?_
    refine kd (v_mv) ?_
    refine kd (v_as) ?_
    refine kops_nil ?_
    refine kn_then ?_
    refine k_lenM (c := j2) hm5R (fun hl27 => ?_)
    subst hl27
    refine kwp_ret ?_
    obtain rfl := e_some h24
    refine r1 (⟨.slice (some a3) (m5.length) (m5.length), 1, m5R.map encRow⟩ :: (rowsC m5R)) ?_
    exact ⟨some a3, (m5.length), m5R, rfl, hm5R, rfl⟩

set_option maxRecDepth 20000 in
theorem w_impl_addLink (m0a : Option Addr) (m0n : Nat) (m0c : Nat) (m0R : List Row) {m0 : List (List Int)} {a0 : Int} {b0 : Int} {weight0 : Int} (hm0R : nums m0R = m0) {r : List (List Int)} (h : p_impl_addLink m0 a0 b0 weight0 = some r) :
    Triple Tryd.prog 70 [.slice m0a m0n m0c, .int .i64 a0, .int .i64 b0, .int .i64 weight0] [] (⟨.slice m0a m0n m0c, 1, m0R.map encRow⟩ :: (rowsC m0R)) (fun v ch => ∃ (w0R : List Row), v = .tuple #[] ∧ nums w0R = r ∧ ch = (⟨.slice m0a m0n m0c, 1, w0R.map encRow⟩ :: (rowsC w0R))) := by
  refine triple_start 66 Tryd.func70 Tryd.ntmps70 rfl rfl (fun w0 => ?_)
  refine k_lenM (c := m0c) (m := m0) hm0R (fun hl1 => ?_)
  subst hl1
  unfold p_impl_addLink at h
  refine kwp_seq ?_
  refine kwp_seq ?_
  refine kwp_region ?_
  refine kd (v_mv) ?_
  refine kd (v_cmp) ?_
  refine kops_nil ?_
  refine kn_then ?_
  refine kwp_cutE (inv := [(0, .slice m0a m0.length m0c), (1, .int .i64 a0), (2, .int .i64 b0), (3, .int .i64 weight0)]) (fun (z : List (List Int)) (y : List Row) => []) (fun (z : List (List Int)) (y : List Row) => (⟨.slice m0a (m0.length) m0c, 1, y.map encRow⟩ :: (rowsC y))) (fun (z : List (List Int)) (y : List Row) => nums y = z ∧ True) h ?_ ?_
  · intro t5 h3
    refine kwp_cond rfl (fun hc6 => ?_) (fun hc6 => ?_)
    ·
      replace h3 := e_t h3 hc6
      refine kwp_region ?_
      refine kd (v_mv) ?_
      refine kd (v_mv) ?_
      refine kd (v_sub) ?_
      obtain ⟨j7, ej7, nj7, h3⟩ := e_idx h3
      refine kd (v_ia ej7 nj7 Tryd.runUnderlying42 Tryd.sizeOf46) ?_
      refine kd (v_ldr nj7 hm0R Tryd.isAgg46) ?_
      refine kd (v_mv) ?_
      refine kd (v_sub) ?_
      obtain ⟨j8, ej8, nj8, h3⟩ := e_idx h3
      refine kd (v_ia ej8 nj8 Tryd.runUnderlying46 Tryd.sizeOf3 (hm := by repeat (first | exact mr hm0R (by first | exact nj7 | (simpa using nj7) | omega | (simp only [List.length_set]; omega)) | exact mr0 hm0R (by first | exact nj7 | (simpa using nj7) | omega | (simp only [List.length_set]; omega)) | apply mt | apply mas | apply ms))) ?_
      refine kd (v_ldf nj8 Tryd.isAgg3 (hm := by repeat (first | exact mr hm0R (by first | exact nj7 | (simpa using nj7) | omega | (simp only [List.length_set]; omega)) | exact mr0 hm0R (by first | exact nj7 | (simpa using nj7) | omega | (simp only [List.length_set]; omega)) | apply mt | apply mas | apply ms))) ?_
      refine kd (v_mv) ?_
      refine kd (v_add) ?_
      refine kd (v_ia ej8 nj8 Tryd.runUnderlying46 Tryd.sizeOf3 (hm := by repeat (first | exact mr hm0R (by first | exact nj7 | (simpa using nj7) | omega | (simp only [List.length_set]; omega)) | exact mr0 hm0R (by first | exact nj7 | (simpa using nj7) | omega | (simp only [List.length_set]; omega)) | apply mt | apply mas | apply ms))) ?_
      refine kk (s_row (by first | exact nj7 | (simpa using nj7) | omega | (simp only [List.length_set]; omega)) nj8 hm0R Tryd.sizeOf3 (fun R9 hR9 => ?_))
      refine kops_nil ?_
      refine kn_then ?_
      obtain rfl := e_some h3
      exact ⟨R9, hd_mk ⟨hR9, trivial⟩⟩
    ·
      replace h3 := e_f h3 hc6
      refine kwp_skip ?_
      refine kn_then ?_
      obtain rfl := e_some h3
      exact ⟨m0R, hd_mk ⟨hm0R, trivial⟩⟩
  · intro m2 m2R hp13 h12
    obtain ⟨hm2R, _⟩ := hp13
    refine k_lenM (m := m2) hm2R (fun hl14 => ?_)
    refine kwp_seq ?_
    refine kwp_seq ?_
    refine kwp_region ?_
    refine kd (v_mv) ?_
    refine kd (v_cmp) ?_
    refine kops_nil ?_
    refine kn_then ?_
    refine kwp_cutE (inv := [(0, .slice m0a m0.length m0c), (1, .int .i64 a0), (2, .int .i64 b0), (3, .int .i64 weight0)]) (fun (z : List (List Int)) (y : List Row) => []) (fun (z : List (List Int)) (y : List Row) => (⟨.slice m0a (m0.length) m0c, 1, y.map encRow⟩ :: (rowsC y))) (fun (z : List (List Int)) (y : List Row) => nums y = z ∧ True) h12 ?_ ?_
    · intro t18 h16
      refine kwp_cond rfl (fun hc19 => ?_) (fun hc19 => ?_)
      ·
        replace h16 := e_t h16 hc19
        refine kwp_region ?_
        refine kd (v_mv) ?_
        refine kd (v_mv) ?_
        refine kd (v_sub) ?_
        obtain ⟨j20, ej20, nj20, h16⟩ := e_idx h16
        refine kd (v_ia ej20 nj20 Tryd.runUnderlying42 Tryd.sizeOf46) ?_
        refine kd (v_ldr nj20 hm2R Tryd.isAgg46) ?_
        refine kd (v_mv) ?_
        refine kd (v_sub) ?_
        obtain ⟨j21, ej21, nj21, h16⟩ := e_idx h16
        refine kd (v_ia ej21 nj21 Tryd.runUnderlying46 Tryd.sizeOf3 (hm := by repeat (first | exact mr hm2R (by first | exact nj20 | (simpa using nj20) | omega | (simp only [List.length_set]; omega)) | exact mr0 hm2R (by first | exact nj20 | (simpa using nj20) | omega | (simp only [List.length_set]; omega)) | apply mt | apply mas | apply ms))) ?_
        refine kd (v_ldf nj21 Tryd.isAgg3 (hm := by repeat (first | exact mr hm2R (by first | exact nj20 | (simpa using nj20) | omega | (simp only [List.length_set]; omega)) | exact mr0 hm2R (by first | exact nj20 | (simpa using nj20) | omega | (simp only [List.length_set]; omega)) | apply mt | apply mas | apply ms))) ?_
        refine kd (v_mv) ?_
        refine kd (v_add) ?_
        refine kd (v_ia ej21 nj21 Tryd.runUnderlying46 Tryd.sizeOf3 (hm := by repeat (first | exact mr hm2R (by first | exact nj20 | (simpa using nj20) | omega | (simp only [List.length_set]; omega)) | exact mr0 hm2R (by first | exact nj20 | (simpa using nj20) | omega | (simp only [List.length_set]; omega)) | apply mt | apply mas | apply ms))) ?_
        refine kk (s_row (by first | exact nj20 | (simpa using nj20) | omega | (simp only [List.length_set]; omega)) nj21 hm2R Tryd.sizeOf3 (fun R22 hR22 => ?_))
        refine kops_nil ?_
        refine kn_then ?_
        obtain rfl := e_some h16
        exact ⟨R22, hd_mk ⟨hR22, trivial⟩⟩
      ·
        replace h16 := e_f h16 hc19
        refine kwp_skip ?_
        refine kn_then ?_
        obtain rfl := e_some h16
        exact ⟨m2R, hd_mk ⟨hm2R, trivial⟩⟩
    · intro m15 m15R hp26 h25
      obtain ⟨hm15R, _⟩ := hp26
      refine k_lenM (m := m15) hm15R (fun hl27 => ?_)
      refine kwp_seq ?_
      refine kwp_cutE (inv := [(0, .slice m0a m0.length m0c), (1, .int .i64 a0), (2, .int .i64 b0), (3, .int .i64 weight0)]) (fun (z : Bool) (y : Unit) => [(41, .bool z)]) (fun (z : Bool) (y : Unit) => (⟨.slice m0a (m0.length) m0c, 1, m15R.map encRow⟩ :: (rowsC m15R))) (fun _ _ => True) h25 ?_ ?_
      · intro t31 h29
        refine kwp_region ?_
        refine kd (v_mv) ?_
        refine kd (v_cmp) ?_
        refine kd (v_mv) ?_
        refine kops_split 38 rfl (fun hb32 => ?_) (fun hb32 => ?_)
        ·
          replace h29 := e_t h29 hb32
          refine kgd hb32 (v_mv) ?_
          refine kgd hb32 (v_cmp) ?_
          refine kd (v_pt hb32) ?_
          refine kops_nil ?_
          refine kn_then ?_
          obtain rfl := e_some h29
          exact ⟨(), hd_mk trivial⟩
        ·
          replace h29 := e_f h29 hb32
          refine kskip hb32 ?_
          refine kskip hb32 ?_
          refine kd (v_pf hb32) ?_
          refine kops_nil ?_
          refine kn_then ?_
          obtain rfl := e_some h29
          exact ⟨(), hd_mk trivial⟩
      · intro x28 y34 _ h35
        refine k_lenM (m := m15) hm15R (fun hl36 => ?_)
        refine kwp_cond rfl (fun hc37 => ?_) (fun hc37 => ?_)
        ·
          replace h35 := e_t h35 hc37
          refine kwp_seq ?_
          refine kwp_region ?_
          refine kd (v_mv) ?_
          refine kd (v_mv) ?_
          refine kd (v_sub) ?_
          obtain ⟨j38, ej38, nj38, h35⟩ := e_idx h35
          refine kd (v_ia ej38 nj38 Tryd.runUnderlying42 Tryd.sizeOf46) ?_
          refine kd (v_ldr nj38 hm15R Tryd.isAgg46) ?_
          refine kd (v_mv) ?_
          refine kd (v_sub) ?_
          obtain ⟨j39, ej39, nj39, h35⟩ := e_idx h35
          refine kd (v_ia ej39 nj39 Tryd.runUnderlying46 Tryd.sizeOf3 (hm := by repeat (first | exact mr hm15R (by first | exact nj38 | (simpa using nj38) | omega | (simp only [List.length_set]; omega)) | exact mr0 hm15R (by first | exact nj38 | (simpa using nj38) | omega | (simp only [List.length_set]; omega)) | apply mt | apply mas | apply ms))) ?_
          refine kd (v_ldf nj39 Tryd.isAgg3 (hm := by repeat (first | exact mr hm15R (by first | exact nj38 | (simpa using nj38) | omega | (simp only [List.length_set]; omega)) | exact mr0 hm15R (by first | exact nj38 | (simpa using nj38) | omega | (simp only [List.length_set]; omega)) | apply mt | apply mas | apply ms))) ?_
          refine kd (v_mv) ?_
          refine kd (v_sub) ?_
          refine kd (v_ia ej39 nj39 Tryd.runUnderlying46 Tryd.sizeOf3 (hm := by repeat (first | exact mr hm15R (by first | exact nj38 | (simpa using nj38) | omega | (simp only [List.length_set]; omega)) | exact mr0 hm15R (by first | exact nj38 | (simpa using nj38) | omega | (simp only [List.length_set]; omega)) | apply mt | apply mas | apply ms))) ?_
          refine kk (s_row (by first | exact nj38 | (simpa using nj38) | omega | (simp only [List.length_set]; omega)) nj39 hm15R Tryd.sizeOf3 (fun R40 hR40 => ?_))
          refine kops_nil ?_
          refine kn_then ?_
          refine kwp_region ?_
          refine kd (v_mv) ?_
          refine kd (v_mv) ?_
          refine kd (v_sub) ?_
          obtain ⟨j41, ej41, nj41, h35⟩ := e_idx h35
          refine kd (v_ia ej41 nj41 Tryd.runUnderlying42 Tryd.sizeOf46) ?_
          refine kd (v_ldr nj41 hR40 Tryd.isAgg46) ?_
          refine kd (v_mv) ?_
          refine kd (v_sub) ?_
          obtain ⟨j42, ej42, nj42, h35⟩ := e_idx h35
          refine kd (v_ia ej42 nj42 Tryd.runUnderlying46 Tryd.sizeOf3 (hm := by repeat (first | exact mr hR40 (by first | exact nj41 | (simpa using nj41) | omega | (simp only [List.length_set]; omega)) | exact mr0 hR40 (by first | exact nj41 | (simpa using nj41) | omega | (simp only [List.length_set]; omega)) | apply mt | apply mas | apply ms))) ?_
          refine kd (v_ldf nj42 Tryd.isAgg3 (hm := by repeat (first | exact mr hR40 (by first | exact nj41 | (simpa using nj41) | omega | (simp only [List.length_set]; omega)) | exact mr0 hR40 (by first | exact nj41 | (simpa using nj41) | omega | (simp only [List.length_set]; omega)) | apply mt | apply mas | apply ms))) ?_
          refine kd (v_mv) ?_
          refine kd (v_sub) ?_
          refine kd (v_ia ej42 nj42 Tryd.runUnderlying46 Tryd.sizeOf3 (hm := by repeat (first | exact mr hR40 (by first | exact nj41 | (simpa using nj41) | omega | (simp only [List.length_set]; omega)) | exact mr0 hR40 (by first | exact nj41 | (simpa using nj41) | omega | (simp only [List.length_set]; omega)) | apply mt | apply mas | apply ms))) ?_
          refine kk (s_row (by first | exact nj41 | (simpa using nj41) | omega | (simp only [List.length_set]; omega)) nj42 hR40 Tryd.sizeOf3 (fun R43 hR43 => ?_))
          refine kops_nil ?_
          obtain rfl := e_some h35
          refine r0n (⟨.slice m0a (m0.length) m0c, 1, R43.map encRow⟩ :: (rowsC R43)) ?_
          exact ⟨R43, rfl, hR43, rfl⟩
        ·
          replace h35 := e_f h35 hc37
          refine kwp_skip ?_
          obtain rfl := e_some h35
          refine r0n (⟨.slice m0a (m0.length) m0c, 1, m15R.map encRow⟩ :: (rowsC m15R)) ?_
          exact ⟨m15R, rfl, hm15R, rfl⟩

set_option maxRecDepth 20000 in
theorem w_impl_AirMatrix (m01a : Option Addr) (m01n : Nat) (m01c : Nat) {m0 : Mine} {r : List (List Int)} (h : p_impl_AirMatrix m0 = some r) :
    Triple Tryd.prog 28 [.agg #[.int .i64 m0.p, .slice m01a m01n m01c]] [⟨.slice m01a m01n m01c, 3, m0.aw.map encAirway⟩] [] (fun v ch => ∃ (w0a : Option Addr) (w0c : Nat) (w0R : List Row), v = .slice w0a r.length w0c ∧ nums w0R = r ∧ ch = (⟨.slice w0a r.length w0c, 1, w0R.map encRow⟩ :: (rowsC w0R))) := by
  refine triple_start 30 Tryd.func28 Tryd.ntmps28 rfl rfl (fun w0 => ?_)
  refine k_len (c := m01c) (fun hl1 => ?_)
  subst hl1
  unfold p_impl_AirMatrix at h
  refine kwp_seq ?_
  refine kwp_region ?_
  refine kk (n_box (e := [.int .i64 m0.p, .slice m01a m0.aw.length m01c]) 2 (fun p1_2 => ?_))
  refine kops_nilM (fun R3 hR3 => ?_)
  refine kd (v_as) ?_
  refine kops_nil ?_
  refine kn_then ?_
  refine kwp_seq ?_
  refine kwp_seq ?_
  refine kwp_region ?_
  refine kd (v_ldB Tryd.isAgg32 Tryd.sizeOf32) ?_
  obtain ⟨v5, hv4, h⟩ := e_bind h
  refine kk (n_call Tryd.call20 (w_impl_MineValid m01a m0.aw.length m01c hv4) ?_)
  rintro _ _ ⟨rfl, rfl⟩
  refine kd (v_not) ?_
  refine kops_nil ?_
  refine kn_then ?_
  refine kwp_cond rfl (fun hc7 => ?_) (fun hc7 => ?_)
  ·
    replace h := e_t h hc7
    refine kwp_seq ?_
    refine kwp_region ?_
    refine kops_nilM (fun R8 hR8 => ?_)
    refine kd (v_as) ?_
    refine kops_nil ?_
    refine kn_then ?_
    refine kwp_ret ?_
    refine kr_then ?_
    obtain rfl := e_some h
    refine r1 (⟨.slice none 0 0, 1, R8.map encRow⟩ :: (rowsC R8)) ?_
    exact ⟨none, 0, R8, rfl, hR8, rfl⟩
  ·
    replace h := e_f h hc7
    refine kwp_skip ?_
    refine kn_then ?_
    refine kwp_seq ?_
    refine kwp_region ?_
    refine kd (v_fb fa_32_0) ?_
    refine kd (v_ldb Tryd.isAgg3) ?_
    refine kd (v_sub) ?_
    obtain ⟨v10, hv9, h⟩ := e_bind h
    refine kk (n_call Tryd.call69 (w_impl_squareOf hv9) ?_)
    rintro _ _ ⟨q11a, q11c, q11R, rfl, hq11R, rfl⟩
    refine kd (v_as) ?_
    refine kops_nil ?_
    refine kn_then ?_
    refine kwp_seq ?_
    refine kwp_seq ?_
    refine kwp_region ?_
    refine kd (v_fb fa_32_1) ?_
    refine kd (v_ldb Tryd.isAgg30) ?_
    refine kd (v_len Tryd.runUnderlying30) ?_
    refine kd (v_mv) ?_
    refine kops_nil ?_
    refine kn_then ?_
    refine kwp_cutE (inv := [(3, .slice q11a v10.length q11c)]) (fun (z : List (List Int)) (y : List Row) => []) (fun (z : List (List Int)) (y : List Row) => (⟨.slice q11a v10.length q11c, 1, y.map encRow⟩ :: (rowsC y))) (fun (z : List (List Int)) (y : List Row) => nums y = z ∧ True) h ?_ ?_
    · intro t15 h13
      refine kwp_block ?_
      refine kwp_loopE (inv := [(3, .slice q11a v10.length q11c), (14, .slice m01a m0.aw.length m01c), (15, .int .i64 ((m0.aw.length : Nat) : Int))]) (fun (z : Int × List (List Int)) (y : List Row) => [(16, .int .i64 z.1)]) (fun (z : Int × List (List Int)) (y : List Row) => (⟨.slice q11a v10.length q11c, 1, y.map encRow⟩ :: (rowsC y))) (fun (z : Int × List (List Int)) (y : List Row) => nums y = z.2 ∧ True) h13 ⟨q11R, hd_mk ⟨hq11R, trivial⟩⟩ ?_
      intro z20 m17R b18 hp22 h19
      obtain ⟨x16, m17⟩ := z20
      obtain ⟨hm17R, _⟩ := hp22
      refine k_lenM (m := m17) hm17R (fun hl23 => ?_)
      unfold p_impl_AirMatrix_L0 at h19
      refine kwp_seq ?_
      refine kwp_region ?_
      refine kd (v_cmp) ?_
      refine kops_nil ?_
      refine kn_then ?_
      refine kwp_seq ?_
      refine kwp_cond rfl (fun hc24 => ?_) (fun hc24 => ?_)
      ·
        replace h19 := e_t h19 hc24
        refine kwp_skip ?_
        refine kn_then ?_
        refine kwp_seq ?_
        refine kwp_block ?_
        refine kwp_seq ?_
        refine kwp_region ?_
        obtain ⟨j25, ej25, nj25, h19⟩ := e_idx h19
        refine kd (v_ia ej25 nj25 Tryd.runUnderlying30 Tryd.sizeOf36) ?_
        refine kd (v_lda (e := [_, _, _]) nj25 Tryd.isAgg36 Tryd.sizeOf36) ?_
        refine kk (n_alloc (e := [.int .i64 0, .int .i64 0, .int .i64 0]) 3 Tryd.zeroValue36 (fun p5_26 => ?_))
        refine kk (s_B (e' := [.int .i64 ((gx m0.aw j25).f), .int .i64 ((gx m0.aw j25).t), .int .i64 ((gx m0.aw j25).w)]) Tryd.sizeOf36 ?_)
        refine kops_nil ?_
        refine kn_then ?_
        refine kwp_region ?_
        refine kd (v_mv) ?_
        refine kd (v_fb fa_36_0) ?_
        refine kd (v_ldb Tryd.isAgg3) ?_
        refine kd (v_fb fa_36_1) ?_
        refine kd (v_ldb Tryd.isAgg3) ?_
        refine kd (v_fb fa_36_2) ?_
        refine kd (v_ldb Tryd.isAgg3) ?_
        obtain ⟨v28, hv27, h19⟩ := e_bind h19
        refine kk (n_call Tryd.call70 (w_impl_addLink q11a v10.length q11c m17R hm17R hv27) ?_)
        rintro _ _ ⟨R29, rfl, hR29, rfl⟩
        refine kops_nil ?_
        refine kn_block ?_
        refine kn_then ?_
        refine kwp_region ?_
        refine kd (v_add) ?_
        refine kd (v_mv) ?_
        refine kops_nil ?_
        refine kn_then ?_
        obtain rfl := e_some h19
        exact ⟨_, R29, rfl, hd_mk ⟨hR29, trivial⟩⟩
      ·
        replace h19 := e_f h19 hc24
        refine kwp_exit ?_
        refine ke_then ?_
        obtain rfl := e_some h19
        refine k_out ?_ rfl
        rintro rfl
        refine ke_block ?_
        exact ⟨m17R, hd_mk ⟨hm17R, trivial⟩⟩
    · intro m12 m12R hp33 h32
      obtain ⟨hm12R, _⟩ := hp33
      refine k_lenM (m := m12) hm12R (fun hl34 => ?_)
      refine kwp_seq ?_
      refine kwp_region ?_
      refine kd (v_mv) ?_
      refine kd (v_as) ?_
      refine kops_nil ?_
      refine kn_then ?_
      refine k_lenM (c := q11c) hm12R (fun hl35 => ?_)
      refine kwp_ret ?_
      obtain rfl := e_some h32
      refine r1 (⟨.slice q11a v10.length q11c, 1, m12R.map encRow⟩ :: (rowsC m12R)) ?_
      exact ⟨q11a, q11c, m12R, by first | rfl | (rw [← hl35] <;> rfl) | ((try dsimp only); rw [← hl35] <;> rfl) | (simp; done), hm12R, by first | rfl | (rw [← hl35] <;> rfl) | ((try dsimp only); rw [← hl35] <;> rfl) | (simp; done)⟩

end Go.Proofs.YtpfijnklnljccaaDoor
