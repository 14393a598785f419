/- What the plain programs return, the functions of the program return; no condition. -/
import Derived.Test.YtfgialdcilldiaaQ1PoolsAt
import Derived.Test.YtfgialdcilldiaaFa
import Derived.Test.YtfgialdcilldiaaVc
import Derived.Test.YtfgialdcilldiaaVp
import Derived.Test.YtfgialdcilldiaaVi
namespace Go.Proofs.Ytfgialdcilldiaa
open Go
set_option linter.unusedVariables false
set_option linter.unusedSimpArgs false

set_option maxRecDepth 20000 in
theorem w_impl_PoolsAt (c00a : Option Addr) (c00n : Nat) (c00c : Nat) (c01a : Option Addr) (c01n : Nat) (c01c : Nat) (c02a : Option Addr) (c02n : Nat) (c02c : Nat) {c0 : Cave} {level0 : Int} {r : List Int} (h : p_impl_PoolsAt c0 level0 = some r) :
    Triple Try.prog 52 [.agg #[.slice c00a c00n c00c, .slice c01a c01n c01c, .slice c02a c02n c02c], .int .i64 level0] [⟨.slice c00a c00n c00c, 1, c0.fl.map encI⟩, ⟨.slice c01a c01n c01c, 1, c0.ar.map encI⟩, ⟨.slice c02a c02n c02c, 3, c0.si.map encSill⟩] [] (fun v ch => ∃ (w0a : Option Addr) (w0c : Nat), v = .slice w0a r.length w0c ∧ ch = [⟨.slice w0a r.length w0c, 1, r.map encI⟩]) := by
  refine triple_start 34 Try.func52 Try.ntmps52 rfl rfl (fun w0 => ?_)
  refine k_len (c := c00c) (fun hl1 => ?_)
  subst hl1
  refine k_len (c := c01c) (fun hl2 => ?_)
  subst hl2
  refine k_len (c := c02c) (fun hl3 => ?_)
  subst hl3
  unfold p_impl_PoolsAt at h
  refine kwp_seq ?_
  refine kwp_region ?_
  refine kk (n_box (e := [.slice c00a c0.fl.length c00c, .slice c01a c0.ar.length c01c, .slice c02a c0.si.length c02c]) 3 (fun p2_4 => ?_))
  refine kops_nilchunk 1 (by decide) ?_
  refine kd (v_as) ?_
  refine kops_nil ?_
  refine kn_then ?_
  refine kwp_seq ?_
  refine kwp_seq ?_
  refine kwp_region ?_
  refine kd (v_ldB Try.isAgg47 Try.sizeOf47) ?_
  obtain ⟨v6, hv5, h⟩ := e_bind h
  refine kk (n_call Try.call26 (w_impl_CaveValid c00a c0.fl.length c00c c01a c0.ar.length c01c c02a c0.si.length c02c hv5) ?_)
  rintro _ _ ⟨rfl, rfl⟩
  refine kd (v_not) ?_
  refine kops_nil ?_
  refine kn_then ?_
  refine kwp_cond rfl (fun hc8 => ?_) (fun hc8 => ?_)
  ·
    replace h := e_t h hc8
    refine kwp_seq ?_
    refine kwp_region ?_
    refine kops_nilchunk 1 (by decide) ?_
    refine kd (v_as) ?_
    refine kops_nil ?_
    refine kn_then ?_
    refine kwp_ret ?_
    refine kr_then ?_
    obtain rfl := e_some h
    refine r1 [⟨.slice none 0 0, 1, ([] : List Int).map encI⟩] ?_
    exact ⟨none, 0, rfl, rfl⟩
  ·
    replace h := e_f h hc8
    refine kwp_skip ?_
    refine kn_then ?_
    refine kwp_seq ?_
    refine kwp_region ?_
    refine kd (v_fb fa_47_0) ?_
    refine kd (v_ldb Try.isAgg39) ?_
    refine kd (v_len Try.runUnderlying39) ?_
    obtain ⟨v10, hv9, h⟩ := e_bind h
    refine kk (n_call Try.call73 (w_impl_ownParts hv9) ?_)
    rintro _ _ ⟨q11a, q11c, rfl, rfl⟩
    refine kd (v_as) ?_
    refine kops_nil ?_
    refine kn_then ?_
    refine kwp_seq ?_
    refine kwp_seq ?_
    refine kwp_region ?_
    refine kd (v_fb fa_47_2) ?_
    refine kd (v_ldb Try.isAgg45) ?_
    refine kd (v_len Try.runUnderlying45) ?_
    refine kd (v_mv) ?_
    refine kops_nil ?_
    refine kn_then ?_
    refine kwp_cutE (inv := [(5, .slice q11a v10.length q11c)]) (fun (z : List Int) (y : Unit) => []) (fun (z : List Int) (y : Unit) => [⟨.slice q11a v10.length q11c, 1, z.map encI⟩]) (fun _ _ => True) h ?_ ?_
    · intro t15 h13
      refine kwp_block ?_
      refine kwp_loopE (inv := [(1, .int .i64 level0), (5, .slice q11a v10.length q11c), (16, .slice c02a c0.si.length c02c), (17, .int .i64 ((c0.si.length : Nat) : Int))]) (fun (z : Int × List Int) (y : Unit) => [(18, .int .i64 z.1)]) (fun (z : Int × List Int) (y : Unit) => [⟨.slice q11a v10.length q11c, 1, z.2.map encI⟩]) (fun _ _ => True) h13 ⟨(), hd_mk trivial⟩ ?_
      intro z20 y21 b18 _ h19
      obtain ⟨x16, l17⟩ := z20
      unfold p_impl_PoolsAt_L0 at h19
      refine kwp_seq ?_
      refine kwp_region ?_
      refine kd (v_cmp) ?_
      refine kops_nil ?_
      refine kn_then ?_
      refine kwp_seq ?_
      refine kwp_cond rfl (fun hc22 => ?_) (fun hc22 => ?_)
      ·
        replace h19 := e_t h19 hc22
        refine kwp_skip ?_
        refine kn_then ?_
        refine kwp_seq ?_
        refine kwp_block ?_
        refine kwp_seq ?_
        refine kwp_region ?_
        obtain ⟨j23, ej23, nj23, h19⟩ := e_idx h19
        refine kd (v_ia ej23 nj23 Try.runUnderlying45 Try.sizeOf83) ?_
        refine kd (v_lda (e := [_, _, _]) nj23 Try.isAgg83 Try.sizeOf83) ?_
        refine kk (n_alloc (e := [.int .i64 0, .int .i64 0, .int .i64 0]) 3 Try.zeroValue83 (fun p7_24 => ?_))
        refine kk (s_B (e' := [.int .i64 ((gx c0.si j23).a), .int .i64 ((gx c0.si j23).b), .int .i64 ((gx c0.si j23).high)]) Try.sizeOf83 ?_)
        refine kops_nil ?_
        refine kn_then ?_
        refine kwp_seq ?_
        refine kwp_region ?_
        refine kd (v_fb fa_83_2) ?_
        refine kd (v_ldb Try.isAgg3) ?_
        refine kd (v_mv) ?_
        refine kd (v_cmp) ?_
        refine kops_nil ?_
        refine kn_then ?_
        refine kwp_cond rfl (fun hc25 => ?_) (fun hc25 => ?_)
        ·
          replace h19 := e_t h19 hc25
          refine kwp_region ?_
          refine kd (v_mv) ?_
          refine kd (v_fb fa_83_0) ?_
          refine kd (v_ldb Try.isAgg3) ?_
          refine kd (v_fb fa_83_1) ?_
          refine kd (v_ldb Try.isAgg3) ?_
          obtain ⟨⟨v27, v28⟩, hv26, h19⟩ := e_bind h19
          refine kk (n_call Try.call74 (w_impl_joinParts q11a v10.length q11c hv26) ?_)
          rintro _ _ ⟨rfl, rfl⟩
          refine kops_nil ?_
          refine kn_block ?_
          refine kn_then ?_
          refine kwp_region ?_
          refine kd (v_add) ?_
          refine kd (v_mv) ?_
          refine kops_nil ?_
          refine kn_then ?_
          obtain rfl := e_some h19
          exact ⟨_, (), rfl, hd_mk trivial⟩
        ·
          replace h19 := e_f h19 hc25
          refine kwp_skip ?_
          refine kn_block ?_
          refine kn_then ?_
          refine kwp_region ?_
          refine kd (v_add) ?_
          refine kd (v_mv) ?_
          refine kops_nil ?_
          refine kn_then ?_
          obtain rfl := e_some h19
          exact ⟨_, (), rfl, hd_mk trivial⟩
      ·
        replace h19 := e_f h19 hc22
        refine kwp_exit ?_
        refine ke_then ?_
        obtain rfl := e_some h19
        refine k_out ?_ rfl
        rintro rfl
        refine ke_block ?_
        exact ⟨(), hd_mk trivial⟩
    · intro l12 y31 _ h32
      refine kn_then ?_
      refine kwp_seq ?_
      refine kwp_region ?_
      refine kd (v_mv) ?_
      refine kd (v_as) ?_
      refine kops_nil ?_
      refine kn_then ?_
      refine k_len (c := q11c) (fun hl33 => ?_)
      refine kwp_ret ?_
      obtain rfl := e_some h32
      refine r1 [⟨.slice q11a v10.length q11c, 1, l12.map encI⟩] ?_
      exact ⟨q11a, q11c, by first | rfl | (rw [← hl33] <;> rfl) | ((try dsimp only); rw [← hl33] <;> rfl) | (simp; done), by first | rfl | (rw [← hl33] <;> rfl) | ((try dsimp only); rw [← hl33] <;> rfl) | (simp; done)⟩

set_option maxRecDepth 20000 in
theorem w_spec_PoolsAt (c00a : Option Addr) (c00n : Nat) (c00c : Nat) (c01a : Option Addr) (c01n : Nat) (c01c : Nat) (c02a : Option Addr) (c02n : Nat) (c02c : Nat) {c0 : Cave} {level0 : Int} {r : List Int} (h : p_spec_PoolsAt c0 level0 = some r) :
    Triple Try.prog 51 [.agg #[.slice c00a c00n c00c, .slice c01a c01n c01c, .slice c02a c02n c02c], .int .i64 level0] [⟨.slice c00a c00n c00c, 1, c0.fl.map encI⟩, ⟨.slice c01a c01n c01c, 1, c0.ar.map encI⟩, ⟨.slice c02a c02n c02c, 3, c0.si.map encSill⟩] [] (fun v ch => ∃ (w0a : Option Addr) (w0c : Nat), v = .slice w0a r.length w0c ∧ ch = [⟨.slice w0a r.length w0c, 1, r.map encI⟩]) := by
  refine triple_start 34 Try.func51 Try.ntmps51 rfl rfl (fun w0 => ?_)
  refine k_len (c := c00c) (fun hl1 => ?_)
  subst hl1
  refine k_len (c := c01c) (fun hl2 => ?_)
  subst hl2
  refine k_len (c := c02c) (fun hl3 => ?_)
  subst hl3
  unfold p_spec_PoolsAt at h
  refine kwp_seq ?_
  refine kwp_region ?_
  refine kk (n_box (e := [.slice c00a c0.fl.length c00c, .slice c01a c0.ar.length c01c, .slice c02a c0.si.length c02c]) 3 (fun p2_4 => ?_))
  refine kops_nilchunk 1 (by decide) ?_
  refine kd (v_as) ?_
  refine kops_nil ?_
  refine kn_then ?_
  refine kwp_seq ?_
  refine kwp_region ?_
  refine kk (n_lit (enc := encI) [] ([] : List Int) Try.runUnderlying39 Try.sizeOf3 Try.zeroValue3 (fun a5 => ?_))
  refine kd (v_as) ?_
  refine kops_nil ?_
  refine kn_then ?_
  refine kwp_seq ?_
  refine kwp_seq ?_
  refine kwp_region ?_
  refine kd (v_ldB Try.isAgg47 Try.sizeOf47) ?_
  obtain ⟨v7, hv6, h⟩ := e_bind h
  refine kk (n_call Try.call24 (w_spec_CaveValid c00a c0.fl.length c00c c01a c0.ar.length c01c c02a c0.si.length c02c hv6) ?_)
  rintro _ _ ⟨rfl, rfl⟩
  refine kd (v_not) ?_
  refine kops_nil ?_
  refine kn_then ?_
  refine kwp_cond rfl (fun hc9 => ?_) (fun hc9 => ?_)
  ·
    replace h := e_t h hc9
    refine kwp_seq ?_
    refine kwp_region ?_
    refine kd (v_mv) ?_
    refine kd (v_as) ?_
    refine kops_nil ?_
    refine kn_then ?_
    refine kwp_ret ?_
    refine kr_then ?_
    obtain rfl := e_some h
    refine r1 [⟨.slice (some a5) 0 0, 1, ([] : List Int).map encI⟩] ?_
    exact ⟨some a5, 0, rfl, rfl⟩
  ·
    replace h := e_f h hc9
    refine kwp_skip ?_
    refine kn_then ?_
    refine kwp_seq ?_
    refine kwp_seq ?_
    refine kwp_region ?_
    refine kd (v_as) ?_
    refine kops_nil ?_
    refine kn_then ?_
    refine kwp_cutE (inv := [(2, .pointer (some p2_4))]) (fun (z : List Int) (y : Option Addr × Nat × Nat) => [(5, .slice y.1 y.2.1 y.2.2)]) (fun (z : List Int) (y : Option Addr × Nat × Nat) => [⟨.slice y.1 y.2.1 y.2.2, 1, z.map encI⟩, ⟨.pointer (some p2_4), 3, [[.slice c00a c0.fl.length c00c, .slice c01a c0.ar.length c01c, .slice c02a c0.si.length c02c]]⟩]) (fun _ _ => True) h ?_ ?_
    · intro t13 h11
      refine kwp_block ?_
      refine kwp_loopE (inv := [(1, .int .i64 level0), (2, .pointer (some p2_4))]) (fun (z : List Int × Int) (y : Option Addr × Nat × Nat) => [(5, .slice y.1 y.2.1 y.2.2), (6, .int .i64 z.2)]) (fun (z : List Int × Int) (y : Option Addr × Nat × Nat) => [⟨.slice y.1 y.2.1 y.2.2, 1, z.1.map encI⟩, ⟨.pointer (some p2_4), 3, [[.slice c00a c0.fl.length c00c, .slice c01a c0.ar.length c01c, .slice c02a c0.si.length c02c]]⟩]) (fun _ _ => True) h11 ⟨(some a5, 0, 0), hd_mk trivial⟩ ?_
      intro z18 y19 b16 _ h17
      obtain ⟨use14, k15⟩ := z18
      obtain ⟨use14a, use14n, use14c⟩ := y19
      refine k_len (c := use14c) (fun hl20 => ?_)
      subst hl20
      unfold p_spec_PoolsAt_L0 at h17
      refine kwp_seq ?_
      refine kwp_seq ?_
      refine kwp_region ?_
      refine kd (v_mv) ?_
      refine kd (v_fb fa_47_2) ?_
      refine kd (v_ldb Try.isAgg45) ?_
      refine kd (v_len Try.runUnderlying45) ?_
      refine kd (v_cmp) ?_
      refine kops_nil ?_
      refine kn_then ?_
      refine kwp_cond rfl (fun hc21 => ?_) (fun hc21 => ?_)
      ·
        replace h17 := e_t h17 hc21
        refine kwp_skip ?_
        refine kn_then ?_
        refine kwp_seq ?_
        refine kwp_block ?_
        refine kwp_seq ?_
        refine kwp_region ?_
        refine kd (v_fb fa_47_2) ?_
        refine kd (v_ldb Try.isAgg45) ?_
        refine kd (v_mv) ?_
        obtain ⟨j22, ej22, nj22, h17⟩ := e_idx h17
        refine kd (v_ia ej22 nj22 Try.runUnderlying45 Try.sizeOf83) ?_
        refine kd (v_fa nj22 fa_83_2) ?_
        refine kd (v_ldf nj22 Try.isAgg3) ?_
        refine kd (v_mv) ?_
        refine kd (v_cmp) ?_
        refine kops_nil ?_
        refine kn_then ?_
        refine kwp_cond rfl (fun hc23 => ?_) (fun hc23 => ?_)
        ·
          replace h17 := e_t h17 hc23
          refine kwp_region ?_
          refine kd (v_mv) ?_
          refine kd (v_mv) ?_
          refine kk (n_lit (enc := encI) [_] ([k15] : List Int) Try.runUnderlying39 Try.sizeOf3 Try.zeroValue3 (fun a24 => ?_))
          obtain ⟨hz25, h17⟩ := e_need h17
          refine kk (n_app (enc := encI) ok_encI hz25 Try.underlying39 Try.type3 (by decide) (fun a26 c27 => ?_))
          refine kd (v_as) ?_
          refine kops_nil ?_
          refine kn_block ?_
          refine kn_then ?_
          refine kwp_region ?_
          refine kd (v_mv) ?_
          refine kd (v_add) ?_
          refine kd (v_as) ?_
          refine kops_nil ?_
          refine kn_then ?_
          obtain rfl := e_some h17
          exact ⟨_, (a26, (use14 ++ ([k15] : List Int)).length, c27), rfl, hd_mk trivial⟩
        ·
          replace h17 := e_f h17 hc23
          refine kwp_skip ?_
          refine kn_block ?_
          refine kn_then ?_
          refine kwp_region ?_
          refine kd (v_mv) ?_
          refine kd (v_add) ?_
          refine kd (v_as) ?_
          refine kops_nil ?_
          refine kn_then ?_
          obtain rfl := e_some h17
          exact ⟨_, (use14a, use14.length, use14c), rfl, hd_mk trivial⟩
      ·
        replace h17 := e_f h17 hc21
        refine kwp_exit ?_
        refine ke_then ?_
        obtain rfl := e_some h17
        refine k_out ?_ rfl
        rintro rfl
        refine ke_block ?_
        exact ⟨(use14a, use14.length, use14c), hd_mk trivial⟩
    · intro use10 y29 _ h30
      obtain ⟨use10a, use10n, use10c⟩ := y29
      refine k_len (c := use10c) (fun hl31 => ?_)
      subst hl31
      refine kwp_seq ?_
      refine kwp_region ?_
      refine kd (v_ldB Try.isAgg47 Try.sizeOf47) ?_
      refine kd (v_mv) ?_
      obtain ⟨v33, hv32, h30⟩ := e_bind h30
      refine kk (n_call Try.call78 (w_spec_l4Parts c00a c0.fl.length c00c c01a c0.ar.length c01c c02a c0.si.length c02c use10a use10.length use10c hv32) ?_)
      rintro _ _ ⟨q34a, q34c, rfl, rfl⟩
      refine kd (v_as) ?_
      refine kops_nil ?_
      refine kn_then ?_
      refine kwp_ret ?_
      obtain rfl := e_some h30
      refine r1 [⟨.slice q34a v33.length q34c, 1, v33.map encI⟩] ?_
      exact ⟨q34a, q34c, rfl, rfl⟩

set_option maxRecDepth 20000 in
set_option maxHeartbeats 2000000 in
theorem w_laws_FnExactPoolsAt (aC00a : Option Addr) (aC00n : Nat) (aC00c : Nat) (aC01a : Option Addr) (aC01n : Nat) (aC01c : Nat) (aC02a : Option Addr) (aC02n : Nat) (aC02c : Nat) {aC0 : Cave} {aLevel0 : Int} {r : Bool} (h : p_laws_FnExactPoolsAt aC0 aLevel0 = some r) :
    Triple Try.prog 14 [.agg #[.slice aC00a aC00n aC00c, .slice aC01a aC01n aC01c, .slice aC02a aC02n aC02c], .int .i64 aLevel0] [⟨.slice aC00a aC00n aC00c, 1, aC0.fl.map encI⟩, ⟨.slice aC01a aC01n aC01c, 1, aC0.ar.map encI⟩, ⟨.slice aC02a aC02n aC02c, 3, aC0.si.map encSill⟩] [] (fun v ch => v = .bool r ∧ ch = []) := by
  refine triple_start 74 Try.func14 Try.ntmps14 rfl rfl (fun w0 => ?_)
  refine k_len (c := aC00c) (fun hl1 => ?_)
  subst hl1
  refine k_len (c := aC01c) (fun hl2 => ?_)
  subst hl2
  refine k_len (c := aC02c) (fun hl3 => ?_)
  subst hl3
  unfold p_laws_FnExactPoolsAt at h
  refine kwp_seq ?_
  refine kwp_region ?_
  refine kk (n_box (e := [.slice aC00a aC0.fl.length aC00c, .slice aC01a aC0.ar.length aC01c, .slice aC02a aC0.si.length aC02c]) 3 (fun p2_4 => ?_))
  refine kd (v_as) ?_
  refine kops_nil ?_
  refine kn_then ?_
  refine kwp_seq ?_
  refine kwp_region ?_
  refine kd (v_as) ?_
  refine kops_nil ?_
  refine kn_then ?_
  refine kwp_seq ?_
  refine kwp_region ?_
  refine kd (v_ldB Try.isAgg42 Try.sizeOf42) ?_
  refine kd (v_mv) ?_
  obtain ⟨v6, hv5, h⟩ := e_bind h
  refine kk (n_call Try.call23 (w_laws_szCave aC00a aC0.fl.length aC00c aC01a aC0.ar.length aC01c aC02a aC0.si.length aC02c hv5) ?_)
  rintro _ _ ⟨rfl, rfl⟩
  refine kd (v_as) ?_
  refine kops_nil ?_
  refine kn_then ?_
  refine kwp_seq ?_
  refine kwp_seq ?_
  refine kwp_region ?_
  refine kd (v_mv) ?_
  refine kd (v_cmp) ?_
  refine kops_nil ?_
  refine kn_then ?_
  refine kwp_cond rfl (fun hc8 => ?_) (fun hc8 => ?_)
  ·
    replace h := e_t h hc8
    refine kwp_seq ?_
    refine kwp_region ?_
    refine kd (v_as) ?_
    refine kops_nil ?_
    refine kn_then ?_
    refine kwp_ret ?_
    refine kr_then ?_
    obtain rfl := e_some h
    refine r1 [] ?_
    exact ⟨rfl, rfl⟩
  ·
    replace h := e_f h hc8
    refine kwp_skip ?_
    refine kn_then ?_
    refine kwp_seq ?_
    refine kwp_region ?_
    refine kd (v_ldB Try.isAgg42 Try.sizeOf42) ?_
    obtain ⟨v10, hv9, h⟩ := e_bind h
    refine kk (n_call Try.call25 (w_laws_toCave aC00a aC0.fl.length aC00c aC01a aC0.ar.length aC01c aC02a aC0.si.length aC02c hv9) ?_)
    rintro _ _ ⟨q110a, q110c, q111a, q111c, q112a, q112c, rfl, rfl⟩
    refine kd (v_mv) ?_
    obtain ⟨v13, hv12, h⟩ := e_bind h
    refine kk (n_call Try.call51 (w_spec_PoolsAt q110a v10.fl.length q110c q111a v10.ar.length q111c q112a v10.si.length q112c hv12) ?_)
    rintro _ _ ⟨q14a, q14c, rfl, rfl⟩
    refine kd (v_as) ?_
    refine kops_nil ?_
    refine kn_then ?_
    refine kwp_seq ?_
    refine kwp_region ?_
    refine kd (v_ldB Try.isAgg42 Try.sizeOf42) ?_
    obtain ⟨v16, hv15, h⟩ := e_bind h
    refine kk (n_call Try.call25 (w_laws_toCave aC00a aC0.fl.length aC00c aC01a aC0.ar.length aC01c aC02a aC0.si.length aC02c hv15) ?_)
    rintro _ _ ⟨q170a, q170c, q171a, q171c, q172a, q172c, rfl, rfl⟩
    refine kops_nilchunk 1 (by decide) ?_
    refine kops_nilchunk 1 (by decide) ?_
    refine kops_nilchunk 3 (by decide) ?_
    refine kk (n_alloc (e := [.slice none 0 0, .slice none 0 0, .slice none 0 0]) 3 Try.zeroValue47 (fun p7_18 => ?_))
    refine kk (s_B (e' := [.slice q170a v16.fl.length q170c, .slice q171a v16.ar.length q171c, .slice q172a v16.si.length q172c]) Try.sizeOf47 ?_)
    refine kops_nil ?_
    refine kn_then ?_
    refine kwp_seq ?_
    refine kwp_region ?_
    refine kd (v_ldB Try.isAgg47 Try.sizeOf47) ?_
    refine kd (v_mv) ?_
    obtain ⟨v20, hv19, h⟩ := e_bind h
    refine kk (n_call Try.call52 (w_impl_PoolsAt q170a v16.fl.length q170c q171a v16.ar.length q171c q172a v16.si.length q172c hv19) ?_)
    rintro _ _ ⟨q21a, q21c, rfl, rfl⟩
    refine kd (v_as) ?_
    refine kops_nil ?_
    refine kn_then ?_
    refine kwp_seq ?_
    refine kwp_seq ?_
    refine kwp_region ?_
    refine kd (v_mv) ?_
    refine kd (v_mv) ?_
    obtain ⟨v23, hv22, h⟩ := e_bind h
    refine kk (n_call Try.call31 (w_laws_eqIntS q21a v20.length q21c q14a v13.length q14c hv22) ?_)
    rintro _ _ ⟨rfl, rfl⟩
    refine kd (v_not) ?_
    refine kops_nil ?_
    refine kn_then ?_
    refine kwp_cond rfl (fun hc25 => ?_) (fun hc25 => ?_)
    ·
      replace h := e_t h hc25
      refine kwp_seq ?_
      refine kwp_region ?_
      refine kd (v_as) ?_
      refine kops_nil ?_
      refine kn_then ?_
      refine kwp_ret ?_
      refine kr_then ?_
      obtain rfl := e_some h
      refine r1 [] ?_
      exact ⟨rfl, rfl⟩
    ·
      replace h := e_f h hc25
      refine kwp_skip ?_
      refine kn_then ?_
      refine kwp_seq ?_
      refine kwp_seq ?_
      obtain ⟨v27, hv26, h⟩ := e_bind h
      obtain ⟨v30, hv29, h⟩ := e_bind h
      refine kwp_tree (.quiet 0 (.quiet 1 (.one 2 (.one 3 (.quiet 4 .stop))))) [] [⟨.pointer (some p2_4), 3, [[.slice aC00a aC0.fl.length aC00c, .slice aC01a aC0.ar.length aC01c, .slice aC02a aC0.si.length aC02c]]⟩, ⟨.pointer (some p7_18), 3, [[.slice q170a v16.fl.length q170c, .slice q171a v16.ar.length q171c, .slice q172a v16.si.length q172c]]⟩] drawMixed (by kernel_rfl) nopan (by (repeat (first | exact Sub.refl _ | exact Sub.nil _ | refine Sub.chunk (by repeat (first | exact Pick.here | apply Pick.there | apply Pick.seg)) (by rfl) ?_ | refine Sub.seg (by repeat (first | exact PickSeg.here | exact PickSeg.all | apply PickSeg.there | apply PickSeg.seg)) ?_ | exact Sub.seg0 (by repeat (first | exact PickSeg.here | exact PickSeg.all | apply PickSeg.there | apply PickSeg.seg)) | apply Sub.assoc))) ?_
      refine kt_d rfl rfl rfl (v_ldB Try.isAgg47 Try.sizeOf47) ?_
      refine kt_d rfl rfl rfl (v_ldB Try.isAgg42 Try.sizeOf42) ?_
      refine kt_one ?_
      refine kl_k rfl rfl (n_call Try.call25 (w_laws_toCave aC00a aC0.fl.length aC00c aC01a aC0.ar.length aC01c aC02a aC0.si.length aC02c hv26) ?_)
      rintro _ _ ⟨q280a, q280c, q281a, q281c, q282a, q282c, rfl, rfl⟩
      refine ⟨.inl (by (repeat (first | exact Sub.refl _ | exact Sub.nil _ | refine Sub.chunk (by repeat (first | exact Pick.here | apply Pick.there | apply Pick.seg)) (by rfl) ?_ | refine Sub.seg (by repeat (first | exact PickSeg.here | exact PickSeg.all | apply PickSeg.there | apply PickSeg.seg)) ?_ | exact Sub.seg0 (by repeat (first | exact PickSeg.here | exact PickSeg.all | apply PickSeg.there | apply PickSeg.seg)) | apply Sub.assoc))), ?_⟩
      refine kt_one ?_
      refine kl_k rfl rfl (n_call Try.call27 (w_laws_eqCave q170a v16.fl.length q170c q171a v16.ar.length q171c q172a v16.si.length q172c q280a v27.fl.length q280c q281a v27.ar.length q281c q282a v27.si.length q282c hv29) ?_)
      rintro _ _ ⟨rfl, rfl⟩
      refine ⟨.inl (by (repeat (first | exact Sub.refl _ | exact Sub.nil _ | refine Sub.chunk (by repeat (first | exact Pick.here | apply Pick.there | apply Pick.seg)) (by rfl) ?_ | refine Sub.seg (by repeat (first | exact PickSeg.here | exact PickSeg.all | apply PickSeg.there | apply PickSeg.seg)) ?_ | exact Sub.seg0 (by repeat (first | exact PickSeg.here | exact PickSeg.all | apply PickSeg.there | apply PickSeg.seg)) | apply Sub.assoc))), ?_⟩
      refine kt_d rfl rfl rfl (v_not) ?_
      refine kt_nil ?_
      refine kn_then ?_
      refine kwp_cond rfl (fun hc32 => ?_) (fun hc32 => ?_)
      ·
        replace h := e_t h hc32
        refine kwp_seq ?_
        refine kwp_region ?_
        refine kd (v_as) ?_
        refine kops_nil ?_
        refine kn_then ?_
        refine kwp_ret ?_
        refine kr_then ?_
        obtain rfl := e_some h
        refine r1 [] ?_
        exact ⟨rfl, rfl⟩
      ·
        replace h := e_f h hc32
        refine kwp_skip ?_
        refine kn_then ?_
        refine kwp_seq ?_
        refine kwp_region ?_
        refine kd (v_as) ?_
        refine kops_nil ?_
        refine kn_then ?_
        refine kwp_seq ?_
        refine kwp_region ?_
        refine kd (v_ldB Try.isAgg47 Try.sizeOf47) ?_
        refine kd (v_mv) ?_
        obtain ⟨⟨v34, v35, v36, v37⟩, hv33, h⟩ := e_bind h
        refine kk (n_call Try.call53 (w_laws_markCave q170a v16.fl.length q170c q171a v16.ar.length q171c q172a v16.si.length q172c hv33) ?_)
        rintro _ _ ⟨rfl, rfl⟩
        refine kd (v_as) ?_
        refine kops_nil ?_
        refine kn_then ?_
        refine kwp_seq ?_
        refine kwp_seq ?_
        refine kwp_cutE (inv := [(1, .int .i64 aLevel0), (2, .pointer (some p2_4)), (6, .slice q14a v13.length q14c), (8, .slice q21a v20.length q21c)]) (fun (z : Bool) (y : Unit) => [(46, .bool z)]) (fun (z : Bool) (y : Unit) => [⟨.pointer (some p2_4), 3, [[.slice aC00a aC0.fl.length aC00c, .slice aC01a aC0.ar.length aC01c, .slice aC02a aC0.si.length aC02c]]⟩, ⟨.slice q14a v13.length q14c, 1, v13.map encI⟩, ⟨.slice q21a v20.length q21c, 1, v20.map encI⟩]) (fun _ _ => True) h ?_ ?_
        · intro t42 h40
          refine kwp_region ?_
          refine kd (v_mv) ?_
          refine kd (v_cmp) ?_
          refine kd (v_mv) ?_
          refine kops_split 41 rfl (fun hb43 => ?_) (fun hb43 => ?_)
          ·
            replace h40 := e_t h40 hb43
            refine kskip hb43 ?_
            refine kskip hb43 ?_
            refine kskip hb43 ?_
            refine kskip hb43 ?_
            refine kd (v_pt hb43) ?_
            refine kops_nil ?_
            refine kn_then ?_
            obtain rfl := e_some h40
            exact ⟨(), hd_mk trivial⟩
          ·
            replace h40 := e_f h40 hb43
            refine kgd hb43 (v_mv) ?_
            refine kgd hb43 (v_mv) ?_
            obtain ⟨v45, hv44, h40⟩ := e_bind h40
            refine kgk hb43 (n_call Try.call31 (w_laws_eqIntS q21a v20.length q21c q14a v13.length q14c hv44) ?_)
            rintro _ _ ⟨rfl, rfl⟩
            refine kgd hb43 (v_not) ?_
            refine kd (v_pf hb43) ?_
            refine kops_nil ?_
            refine kn_then ?_
            obtain rfl := e_some h40
            exact ⟨(), hd_mk trivial⟩
        · intro x39 y48 _ h49
          refine kn_then ?_
          refine kwp_cond rfl (fun hc50 => ?_) (fun hc50 => ?_)
          ·
            replace h49 := e_t h49 hc50
            refine kwp_seq ?_
            refine kwp_region ?_
            refine kd (v_as) ?_
            refine kops_nil ?_
            refine kn_then ?_
            refine kwp_ret ?_
            refine kr_then ?_
            obtain rfl := e_some h49
            refine r1 [] ?_
            exact ⟨rfl, rfl⟩
          ·
            replace h49 := e_f h49 hc50
            refine kwp_skip ?_
            refine kn_then ?_
            refine kwp_seq ?_
            refine kwp_region ?_
            refine kd (v_as) ?_
            refine kops_nil ?_
            refine kn_then ?_
            refine kwp_seq ?_
            refine kwp_region ?_
            refine kd (v_mv) ?_
            refine kd (v_mv) ?_
            obtain ⟨⟨v52, v53⟩, hv51, h49⟩ := e_bind h49
            refine kk (n_call Try.call54 (w_laws_markIntS q21a v20.length q21c hv51) ?_)
            rintro _ _ ⟨rfl, rfl⟩
            refine kd (v_as) ?_
            refine kops_nil ?_
            refine kn_then ?_
            refine kwp_seq ?_
            refine kwp_region ?_
            refine kd (v_as) ?_
            refine kops_nil ?_
            refine kn_then ?_
            refine kwp_seq ?_
            refine kwp_region ?_
            refine kd (v_mv) ?_
            refine kd (v_mv) ?_
            obtain ⟨v56, hv55, h49⟩ := e_bind h49
            refine kk (n_call Try.call55 (w_laws_heldIntS q21a v20.length q21c hv55) ?_)
            rintro _ _ ⟨rfl, rfl⟩
            refine kd (v_as) ?_
            refine kops_nil ?_
            refine kn_then ?_
            refine kwp_seq ?_
            refine kwp_seq ?_
            refine kwp_region ?_
            refine kd (v_mv) ?_
            refine kd (v_cmp) ?_
            refine kops_nil ?_
            refine kn_then ?_
            refine kwp_cond rfl (fun hc58 => ?_) (fun hc58 => ?_)
            ·
              replace h49 := e_t h49 hc58
              refine kwp_seq ?_
              refine kwp_region ?_
              refine kd (v_as) ?_
              refine kops_nil ?_
              refine kn_then ?_
              refine kwp_ret ?_
              refine kr_then ?_
              obtain rfl := e_some h49
              refine r1 [] ?_
              exact ⟨rfl, rfl⟩
            ·
              replace h49 := e_f h49 hc58
              refine kwp_skip ?_
              refine kn_then ?_
              refine kwp_seq ?_
              refine kwp_seq ?_
              refine kwp_region ?_
              refine kd (v_mv) ?_
              refine kd (v_mv) ?_
              refine kd (v_cmp) ?_
              refine kops_nil ?_
              refine kn_then ?_
              refine kwp_cond rfl (fun hc59 => ?_) (fun hc59 => ?_)
              ·
                replace h49 := e_t h49 hc59
                refine kwp_seq ?_
                refine kwp_region ?_
                refine kd (v_as) ?_
                refine kops_nil ?_
                refine kn_then ?_
                refine kwp_ret ?_
                refine kr_then ?_
                obtain rfl := e_some h49
                refine r1 [] ?_
                exact ⟨rfl, rfl⟩
              ·
                replace h49 := e_f h49 hc59
                refine kwp_skip ?_
                refine kn_then ?_
                refine kwp_seq ?_
                refine kwp_region ?_
                refine kd (v_ldB Try.isAgg42 Try.sizeOf42) ?_
                obtain ⟨v61, hv60, h49⟩ := e_bind h49
                refine kk (n_call Try.call25 (w_laws_toCave aC00a aC0.fl.length aC00c aC01a aC0.ar.length aC01c aC02a aC0.si.length aC02c hv60) ?_)
                rintro _ _ ⟨q620a, q620c, q621a, q621c, q622a, q622c, rfl, rfl⟩
                refine kd (v_mv) ?_
                obtain ⟨v64, hv63, h49⟩ := e_bind h49
                refine kk (n_call Try.call52 (w_impl_PoolsAt q620a v61.fl.length q620c q621a v61.ar.length q621c q622a v61.si.length q622c hv63) ?_)
                rintro _ _ ⟨q65a, q65c, rfl, rfl⟩
                refine kd (v_as) ?_
                refine kops_nil ?_
                refine kn_then ?_
                refine kwp_seq ?_
                refine kwp_seq ?_
                refine kwp_region ?_
                refine kd (v_mv) ?_
                refine kd (v_mv) ?_
                obtain ⟨v67, hv66, h49⟩ := e_bind h49
                refine kk (n_call Try.call31 (w_laws_eqIntS q65a v64.length q65c q14a v13.length q14c hv66) ?_)
                rintro _ _ ⟨rfl, rfl⟩
                refine kd (v_not) ?_
                refine kops_nil ?_
                refine kn_then ?_
                refine kwp_cond rfl (fun hc69 => ?_) (fun hc69 => ?_)
                ·
                  replace h49 := e_t h49 hc69
                  refine kwp_seq ?_
                  refine kwp_region ?_
                  refine kd (v_as) ?_
                  refine kops_nil ?_
                  refine kn_then ?_
                  refine kwp_ret ?_
                  refine kr_then ?_
                  obtain rfl := e_some h49
                  refine r1 [] ?_
                  exact ⟨rfl, rfl⟩
                ·
                  replace h49 := e_f h49 hc69
                  refine kwp_skip ?_
                  refine kn_then ?_
                  refine kwp_seq ?_
                  refine kwp_region ?_
                  refine kd (v_as) ?_
                  refine kops_nil ?_
                  refine kn_then ?_
                  refine kwp_seq ?_
                  refine kwp_region ?_
                  refine kd (v_mv) ?_
                  refine kd (v_mv) ?_
                  obtain ⟨v71, hv70, h49⟩ := e_bind h49
                  refine kk (n_call Try.call55 (w_laws_heldIntS q21a v20.length q21c hv70) ?_)
                  rintro _ _ ⟨rfl, rfl⟩
                  refine kd (v_as) ?_
                  refine kops_nil ?_
                  refine kn_then ?_
                  refine kwp_seq ?_
                  refine kwp_seq ?_
                  refine kwp_region ?_
                  refine kd (v_mv) ?_
                  refine kd (v_cmp) ?_
                  refine kops_nil ?_
                  refine kn_then ?_
                  refine kwp_cond rfl (fun hc73 => ?_) (fun hc73 => ?_)
                  ·
                    replace h49 := e_t h49 hc73
                    refine kwp_seq ?_
                    refine kwp_region ?_
                    refine kd (v_as) ?_
                    refine kops_nil ?_
                    refine kn_then ?_
                    refine kwp_ret ?_
                    refine kr_then ?_
                    obtain rfl := e_some h49
                    refine r1 [] ?_
                    exact ⟨rfl, rfl⟩
                  ·
                    replace h49 := e_f h49 hc73
                    refine kwp_skip ?_
                    refine kn_then ?_
                    refine kwp_seq ?_
                    refine kwp_seq ?_
                    refine kwp_region ?_
                    refine kd (v_mv) ?_
                    refine kd (v_mv) ?_
                    refine kd (v_cmp) ?_
                    refine kops_nil ?_
                    refine kn_then ?_
                    refine kwp_cond rfl (fun hc74 => ?_) (fun hc74 => ?_)
                    ·
                      replace h49 := e_t h49 hc74
                      refine kwp_seq ?_
                      refine kwp_region ?_
                      refine kd (v_as) ?_
                      refine kops_nil ?_
                      refine kn_then ?_
                      refine kwp_ret ?_
                      refine kr_then ?_
                      obtain rfl := e_some h49
                      refine r1 [] ?_
                      exact ⟨rfl, rfl⟩
                    ·
                      replace h49 := e_f h49 hc74
                      refine kwp_skip ?_
                      refine kn_then ?_
                      refine kwp_seq ?_
                      refine kwp_region ?_
                      refine kd (v_as) ?_
                      refine kops_nil ?_
                      refine kn_then ?_
                      refine kwp_ret ?_
                      obtain rfl := e_some h49
                      refine r1 [] ?_
                      exact ⟨rfl, rfl⟩

end Go.Proofs.Ytfgialdcilldiaa
