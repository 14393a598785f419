/- What the plain programs return, the functions of the program return; no condition. -/
import Derived.Test.YtkhjbfngafebeaaZQ
import Derived.Test.YtkhjbfngafebeaaZFa
namespace Go.Proofs.Ytkhjbfngafebeaa
open Go
set_option linter.unusedVariables false
set_option linter.unusedSimpArgs false

set_option maxRecDepth 20000 in
theorem w_laws_szLegS (a0a : Option Addr) (a0n : Nat) (a0c : Nat) {a0 : List Leg} {left0 : Int} {r : Int} (h : p_laws_szLegS a0 left0 = some r) :
    Triple Try.prog 22 [.slice a0a a0n a0c, .int .i64 left0] [⟨.slice a0a a0n a0c, 5, a0.map encLeg⟩] [] (fun v ch => v = .int .i64 r ∧ ch = []) := by
  refine triple_start 12 Try.func22 Try.ntmps22 rfl rfl (fun w0 => ?_)
  refine k_len (c := a0c) (fun hl1 => ?_)
  subst hl1
  unfold p_laws_szLegS at h
  refine kwp_seq ?_
  refine kwp_region ?_
  refine kd (v_as) ?_
  refine kops_nil ?_
  refine kn_then ?_
  refine kwp_seq ?_
  refine kwp_region ?_
  refine kd (v_mv) ?_
  refine kd (v_mv) ?_
  refine kd (v_len Try.runUnderlying22) ?_
  refine kd (v_sub) ?_
  refine kd (v_as) ?_
  refine kops_nil ?_
  refine kn_then ?_
  refine kwp_seq ?_
  refine kwp_seq ?_
  refine kwp_region ?_
  refine kd (v_mv) ?_
  refine kd (v_cmp) ?_
  refine kops_nil ?_
  refine kn_then ?_
  refine kwp_cond rfl (fun hc2 => ?_) (fun hc2 => ?_)
  ·
    replace h := e_t h hc2
    refine kwp_seq ?_
    refine kwp_region ?_
    refine kd (v_as) ?_
    refine kops_nil ?_
    refine kn_then ?_
    refine kwp_ret ?_
    refine kr_then ?_
    obtain rfl := e_some h
    refine r1 [] ?_
    exact ⟨rfl, rfl⟩
  ·
    replace h := e_f h hc2
    refine kwp_skip ?_
    refine kn_then ?_
    refine kwp_seq ?_
    refine kwp_region ?_
    refine kd (v_mv) ?_
    refine kd (v_as) ?_
    refine kops_nil ?_
    refine kn_then ?_
    refine kwp_ret ?_
    obtain rfl := e_some h
    refine r1 [] ?_
    exact ⟨rfl, rfl⟩

set_option maxRecDepth 20000 in
theorem w_laws_szSurvey (a01a : Option Addr) (a01n : Nat) (a01c : Nat) {a0 : Survey} {left0 : Int} {r : Int} (h : p_laws_szSurvey a0 left0 = some r) :
    Triple Try.prog 6 [.agg #[.int .i64 a0.st, .slice a01a a01n a01c], .int .i64 left0] [⟨.slice a01a a01n a01c, 5, a0.legs.map encLeg⟩] [] (fun v ch => v = .int .i64 r ∧ ch = []) := by
  refine triple_start 12 Try.func6 Try.ntmps6 rfl rfl (fun w0 => ?_)
  refine k_len (c := a01c) (fun hl1 => ?_)
  subst hl1
  unfold p_laws_szSurvey at h
  refine kwp_seq ?_
  refine kwp_region ?_
  refine kk (n_box (e := [.int .i64 a0.st, .slice a01a a0.legs.length a01c]) 2 (fun p2_2 => ?_))
  refine kd (v_as) ?_
  refine kops_nil ?_
  refine kn_then ?_
  refine kwp_seq ?_
  refine kwp_region ?_
  refine kd (v_fb fa_24_1) ?_
  refine kd (v_ldb Try.isAgg22) ?_
  refine kd (v_mv) ?_
  obtain ⟨v4, hv3, h⟩ := e_bind h
  refine kk (n_call Try.call22 (w_laws_szLegS a01a a0.legs.length a01c hv3) ?_)
  rintro _ _ ⟨rfl, rfl⟩
  refine kd (v_as) ?_
  refine kops_nil ?_
  refine kn_then ?_
  refine kwp_seq ?_
  refine kwp_seq ?_
  refine kwp_region ?_
  refine kd (v_mv) ?_
  refine kd (v_cmp) ?_
  refine kops_nil ?_
  refine kn_then ?_
  refine kwp_cond rfl (fun hc6 => ?_) (fun hc6 => ?_)
  ·
    replace h := e_t h hc6
    refine kwp_seq ?_
    refine kwp_region ?_
    refine kd (v_as) ?_
    refine kops_nil ?_
    refine kn_then ?_
    refine kwp_ret ?_
    refine kr_then ?_
    obtain rfl := e_some h
    refine r1 [] ?_
    exact ⟨rfl, rfl⟩
  ·
    replace h := e_f h hc6
    refine kwp_skip ?_
    refine kn_then ?_
    refine kwp_seq ?_
    refine kwp_region ?_
    refine kd (v_mv) ?_
    refine kd (v_as) ?_
    refine kops_nil ?_
    refine kn_then ?_
    refine kwp_ret ?_
    obtain rfl := e_some h
    refine r1 [] ?_
    exact ⟨rfl, rfl⟩

set_option maxRecDepth 20000 in
theorem w_laws_toLeg  {a0 : Leg} {r : Leg} (h : p_laws_toLeg a0 = some r) :
    Triple Try.prog 51 [.agg #[.int .i64 a0.f, .int .i64 a0.t, .int .i64 a0.e, .int .i64 a0.n, .int .i64 a0.u]] [] [] (fun v ch => v = .agg #[.int .i64 r.f, .int .i64 r.t, .int .i64 r.e, .int .i64 r.n, .int .i64 r.u] ∧ ch = []) := by
  refine triple_start 20 Try.func51 Try.ntmps51 rfl rfl (fun w0 => ?_)
  unfold p_laws_toLeg at h
  refine kwp_seq ?_
  refine kwp_region ?_
  refine kk (n_box (e := [.int .i64 a0.f, .int .i64 a0.t, .int .i64 a0.e, .int .i64 a0.n, .int .i64 a0.u]) 5 (fun p1_1 => ?_))
  refine kk (n_alloc (e := [.int .i64 0, .int .i64 0, .int .i64 0, .int .i64 0, .int .i64 0]) 5 Try.zeroValue58 (fun p2_2 => ?_))
  refine kops_nil ?_
  refine kn_then ?_
  refine kwp_seq ?_
  refine kwp_region ?_
  refine kk (n_alloc (e := [.int .i64 0, .int .i64 0, .int .i64 0, .int .i64 0, .int .i64 0]) 5 Try.zeroValue58 (fun p3_3 => ?_))
  refine kops_nil ?_
  refine kn_then ?_
  refine kwp_seq ?_
  refine kwp_region ?_
  refine kd (v_fb fa_74_0) ?_
  refine kd (v_ldb Try.isAgg3) ?_
  refine kd (v_fb fa_58_0) ?_
  refine kk (s_b (e' := [.int .i64 a0.f, .int .i64 0, .int .i64 0, .int .i64 0, .int .i64 0]) Try.sizeOf3 ?_)
  refine kops_nil ?_
  refine kn_then ?_
  refine kwp_seq ?_
  refine kwp_region ?_
  refine kd (v_fb fa_74_1) ?_
  refine kd (v_ldb Try.isAgg3) ?_
  refine kd (v_fb fa_58_1) ?_
  refine kk (s_b (e' := [.int .i64 a0.f, .int .i64 a0.t, .int .i64 0, .int .i64 0, .int .i64 0]) Try.sizeOf3 ?_)
  refine kops_nil ?_
  refine kn_then ?_
  refine kwp_seq ?_
  refine kwp_region ?_
  refine kd (v_fb fa_74_2) ?_
  refine kd (v_ldb Try.isAgg3) ?_
  refine kd (v_fb fa_58_2) ?_
  refine kk (s_b (e' := [.int .i64 a0.f, .int .i64 a0.t, .int .i64 a0.e, .int .i64 0, .int .i64 0]) Try.sizeOf3 ?_)
  refine kops_nil ?_
  refine kn_then ?_
  refine kwp_seq ?_
  refine kwp_region ?_
  refine kd (v_fb fa_74_3) ?_
  refine kd (v_ldb Try.isAgg3) ?_
  refine kd (v_fb fa_58_3) ?_
  refine kk (s_b (e' := [.int .i64 a0.f, .int .i64 a0.t, .int .i64 a0.e, .int .i64 a0.n, .int .i64 0]) Try.sizeOf3 ?_)
  refine kops_nil ?_
  refine kn_then ?_
  refine kwp_seq ?_
  refine kwp_region ?_
  refine kd (v_fb fa_74_4) ?_
  refine kd (v_ldb Try.isAgg3) ?_
  refine kd (v_fb fa_58_4) ?_
  refine kk (s_b (e' := [.int .i64 a0.f, .int .i64 a0.t, .int .i64 a0.e, .int .i64 a0.n, .int .i64 a0.u]) Try.sizeOf3 ?_)
  refine kops_nil ?_
  refine kn_then ?_
  refine kwp_seq ?_
  refine kwp_region ?_
  refine kd (v_ldB Try.isAgg58 Try.sizeOf58) ?_
  refine kk (s_B (e' := [.int .i64 a0.f, .int .i64 a0.t, .int .i64 a0.e, .int .i64 a0.n, .int .i64 a0.u]) Try.sizeOf58 ?_)
  refine kops_nil ?_
  refine kn_then ?_
  refine kwp_ret ?_
  obtain rfl := e_some h
  refine rc Try.isAgg58 Try.sizeOf58 [] ?_
  exact ⟨rfl, rfl⟩

set_option maxRecDepth 20000 in
theorem w_laws_toLegS (a0a : Option Addr) (a0n : Nat) (a0c : Nat) {a0 : List Leg} {r : List Leg} (h : p_laws_toLegS a0 = some r) :
    Triple Try.prog 28 [.slice a0a a0n a0c] [⟨.slice a0a a0n a0c, 5, a0.map encLeg⟩] [] (fun v ch => ∃ (w0a : Option Addr) (w0c : Nat), v = .slice w0a r.length w0c ∧ ch = [⟨.slice w0a r.length w0c, 5, r.map encLeg⟩]) := by
  refine triple_start 23 Try.func28 Try.ntmps28 rfl rfl (fun w0 => ?_)
  refine k_len (c := a0c) (fun hl1 => ?_)
  subst hl1
  unfold p_laws_toLegS at h
  refine kwp_seq ?_
  refine kwp_region ?_
  refine kops_nilchunk 5 (by decide) ?_
  refine kd (v_as) ?_
  refine kops_nil ?_
  refine kn_then ?_
  refine kwp_seq ?_
  refine kwp_region ?_
  refine kd (v_mv) ?_
  refine kd (v_len Try.runUnderlying22) ?_
  obtain ⟨j2, ej2, nj2, h⟩ := e_sized h
  refine kk (n_make (enc := encLeg) (⟨0, 0, 0, 0, 0⟩ : Leg) ej2 nj2 Try.underlying31 Try.type58 (by decide) (fun a3 => ?_))
  refine kd (v_as) ?_
  refine kops_nil ?_
  refine kn_then ?_
  refine kwp_seq ?_
  refine kwp_seq ?_
  refine kwp_region ?_
  refine kd (v_as) ?_
  refine kops_nil ?_
  refine kn_then ?_
  refine kwp_cutE (inv := [(3, .slice (some a3) j2 j2)]) (fun (z : List Leg) (y : Unit) => []) (fun (z : List Leg) (y : Unit) => [⟨.slice (some a3) j2 j2, 5, z.map encLeg⟩]) (fun _ _ => True) h ?_ ?_
  · intro t7 h5
    refine kwp_block ?_
    refine kwp_loopE (inv := [(0, .slice a0a a0.length a0c), (3, .slice (some a3) j2 j2)]) (fun (z : Int × List Leg) (y : Unit) => [(4, .int .i64 z.1)]) (fun (z : Int × List Leg) (y : Unit) => [⟨.slice (some a3) j2 j2, 5, z.2.map encLeg⟩]) (fun _ _ => True) h5 ⟨(), hd_mk trivial⟩ ?_
    intro z12 y13 b10 _ h11
    obtain ⟨i8, l9⟩ := z12
    unfold p_laws_toLegS_L0 at h11
    refine kwp_seq ?_
    refine kwp_seq ?_
    refine kwp_region ?_
    refine kd (v_mv) ?_
    refine kd (v_mv) ?_
    refine kd (v_len Try.runUnderlying22) ?_
    refine kd (v_cmp) ?_
    refine kops_nil ?_
    refine kn_then ?_
    refine kwp_cond rfl (fun hc14 => ?_) (fun hc14 => ?_)
    ·
      replace h11 := e_t h11 hc14
      refine kwp_skip ?_
      refine kn_then ?_
      refine kwp_seq ?_
      refine kwp_block ?_
      refine kwp_region ?_
      refine kd (v_mv) ?_
      refine kd (v_mv) ?_
      refine kd (v_mv) ?_
      refine kd (v_mv) ?_
      obtain ⟨j15, ej15, nj15, h11⟩ := e_idx h11
      refine kd (v_ia ej15 nj15 Try.runUnderlying22 Try.sizeOf74) ?_
      refine kd (v_lda (e := [_, _, _, _, _]) nj15 Try.isAgg74 Try.sizeOf74) ?_
      obtain ⟨v17, hv16, h11⟩ := e_bind h11
      refine kk (n_call Try.call51 (w_laws_toLeg hv16) ?_)
      rintro _ _ ⟨rfl, rfl⟩
      obtain ⟨j19, ej19, nj19, h11⟩ := e_idx h11
      refine kd (v_ia ej19 nj19 Try.runUnderlying31 Try.sizeOf58) ?_
      refine kk (s_a v17 nj19 Try.sizeOf58 ?_ (ok_encLeg _))
      refine kops_nil ?_
      refine kn_block ?_
      refine kn_then ?_
      refine kwp_region ?_
      refine kd (v_mv) ?_
      refine kd (v_add) ?_
      refine kd (v_as) ?_
      refine kops_nil ?_
      refine kn_then ?_
      obtain rfl := e_some h11
      exact ⟨_, (), rfl, hd_mk trivial⟩
    ·
      replace h11 := e_f h11 hc14
      refine kwp_exit ?_
      refine ke_then ?_
      obtain rfl := e_some h11
      refine k_out ?_ rfl
      rintro rfl
      refine ke_block ?_
      exact ⟨(), hd_mk trivial⟩
  · intro l4 y21 _ h22
    refine kn_then ?_
    refine kwp_seq ?_
    refine kwp_region ?_
    refine kd (v_mv) ?_
    refine kd (v_as) ?_
    refine kops_nil ?_
    refine kn_then ?_
    refine k_len (c := j2) (fun hl23 => ?_)
    subst hl23
    refine kwp_ret ?_
    obtain rfl := e_some h22
    refine r1 [⟨.slice (some a3) (l4.length) (l4.length), 5, l4.map encLeg⟩] ?_
    exact ⟨some a3, (l4.length), rfl, rfl⟩

set_option maxRecDepth 20000 in
theorem w_laws_toSurvey (a01a : Option Addr) (a01n : Nat) (a01c : Nat) {a0 : Survey} {r : Survey} (h : p_laws_toSurvey a0 = some r) :
    Triple Try.prog 8 [.agg #[.int .i64 a0.st, .slice a01a a01n a01c]] [⟨.slice a01a a01n a01c, 5, a0.legs.map encLeg⟩] [] (fun v ch => ∃ (w01a : Option Addr) (w01c : Nat), v = .agg #[.int .i64 r.st, .slice w01a r.legs.length w01c] ∧ ch = [⟨.slice w01a r.legs.length w01c, 5, r.legs.map encLeg⟩]) := by
  refine triple_start 12 Try.func8 Try.ntmps8 rfl rfl (fun w0 => ?_)
  refine k_len (c := a01c) (fun hl1 => ?_)
  subst hl1
  unfold p_laws_toSurvey at h
  refine kwp_seq ?_
  refine kwp_region ?_
  refine kk (n_box (e := [.int .i64 a0.st, .slice a01a a0.legs.length a01c]) 2 (fun p1_2 => ?_))
  refine kops_nilchunk 5 (by decide) ?_
  refine kk (n_alloc (e := [.int .i64 0, .slice none 0 0]) 2 Try.zeroValue33 (fun p2_3 => ?_))
  refine kops_nil ?_
  refine kn_then ?_
  refine kwp_seq ?_
  refine kwp_region ?_
  refine kops_nilchunk 5 (by decide) ?_
  refine kk (n_alloc (e := [.int .i64 0, .slice none 0 0]) 2 Try.zeroValue33 (fun p3_4 => ?_))
  refine kops_nil ?_
  refine kn_then ?_
  refine kwp_seq ?_
  refine kwp_region ?_
  refine kd (v_fb fa_24_0) ?_
  refine kd (v_ldb Try.isAgg3) ?_
  refine kd (v_fb fa_33_0) ?_
  refine kk (s_b (e' := [.int .i64 a0.st, .slice none 0 0]) Try.sizeOf3 ?_)
  refine kops_nil ?_
  refine kn_then ?_
  refine kwp_seq ?_
  refine kwp_region ?_
  refine kd (v_fb fa_24_1) ?_
  refine kd (v_ldb Try.isAgg22) ?_
  obtain ⟨v6, hv5, h⟩ := e_bind h
  refine kk (n_call Try.call28 (w_laws_toLegS a01a a0.legs.length a01c hv5) ?_)
  rintro _ _ ⟨q7a, q7c, rfl, rfl⟩
  refine kd (v_fb fa_33_1) ?_
  refine kk (s_b (e' := [.int .i64 a0.st, .slice q7a v6.length q7c]) Try.sizeOf31 ?_)
  refine kops_nil ?_
  refine kn_then ?_
  refine kwp_seq ?_
  refine kwp_region ?_
  refine kd (v_ldB Try.isAgg33 Try.sizeOf33) ?_
  refine kk (s_B (e' := [.int .i64 a0.st, .slice q7a v6.length q7c]) Try.sizeOf33 ?_)
  refine kops_nil ?_
  refine kn_then ?_
  refine kwp_ret ?_
  obtain rfl := e_some h
  refine rc Try.isAgg33 Try.sizeOf33 [⟨.slice q7a v6.length q7c, 5, v6.map encLeg⟩] ?_
  exact ⟨q7a, q7c, rfl, rfl⟩

set_option maxRecDepth 20000 in
theorem w_laws_eqLeg  {a0 : Leg} {b0 : Leg} {r : Bool} (h : p_laws_eqLeg a0 b0 = some r) :
    Triple Try.prog 62 [.agg #[.int .i64 a0.f, .int .i64 a0.t, .int .i64 a0.e, .int .i64 a0.n, .int .i64 a0.u], .agg #[.int .i64 b0.f, .int .i64 b0.t, .int .i64 b0.e, .int .i64 b0.n, .int .i64 b0.u]] [] [] (fun v ch => v = .bool r ∧ ch = []) := by
  refine triple_start 30 Try.func62 Try.ntmps62 rfl rfl (fun w0 => ?_)
  unfold p_laws_eqLeg at h
  refine kwp_seq ?_
  refine kwp_region ?_
  refine kk (n_box (e := [.int .i64 a0.f, .int .i64 a0.t, .int .i64 a0.e, .int .i64 a0.n, .int .i64 a0.u]) 5 (fun p2_1 => ?_))
  refine kk (n_box (e := [.int .i64 b0.f, .int .i64 b0.t, .int .i64 b0.e, .int .i64 b0.n, .int .i64 b0.u]) 5 (fun p3_2 => ?_))
  refine kd (v_as) ?_
  refine kops_nil ?_
  refine kn_then ?_
  refine kwp_seq ?_
  refine kwp_seq ?_
  refine kwp_region ?_
  refine kd (v_fb fa_58_0) ?_
  refine kd (v_ldb Try.isAgg3) ?_
  refine kd (v_fb fa_58_0) ?_
  refine kd (v_ldb Try.isAgg3) ?_
  refine kd (v_cmp) ?_
  refine kops_nil ?_
  refine kn_then ?_
  refine kwp_cond rfl (fun hc3 => ?_) (fun hc3 => ?_)
  ·
    replace h := e_t h hc3
    refine kwp_seq ?_
    refine kwp_region ?_
    refine kd (v_as) ?_
    refine kops_nil ?_
    refine kn_then ?_
    refine kwp_ret ?_
    refine kr_then ?_
    obtain rfl := e_some h
    refine r1 [] ?_
    exact ⟨rfl, rfl⟩
  ·
    replace h := e_f h hc3
    refine kwp_skip ?_
    refine kn_then ?_
    refine kwp_seq ?_
    refine kwp_seq ?_
    refine kwp_region ?_
    refine kd (v_fb fa_58_1) ?_
    refine kd (v_ldb Try.isAgg3) ?_
    refine kd (v_fb fa_58_1) ?_
    refine kd (v_ldb Try.isAgg3) ?_
    refine kd (v_cmp) ?_
    refine kops_nil ?_
    refine kn_then ?_
    refine kwp_cond rfl (fun hc4 => ?_) (fun hc4 => ?_)
    ·
      replace h := e_t h hc4
      refine kwp_seq ?_
      refine kwp_region ?_
      refine kd (v_as) ?_
      refine kops_nil ?_
      refine kn_then ?_
      refine kwp_ret ?_
      refine kr_then ?_
      obtain rfl := e_some h
      refine r1 [] ?_
      exact ⟨rfl, rfl⟩
    ·
      replace h := e_f h hc4
      refine kwp_skip ?_
      refine kn_then ?_
      refine kwp_seq ?_
      refine kwp_seq ?_
      refine kwp_region ?_
      refine kd (v_fb fa_58_2) ?_
      refine kd (v_ldb Try.isAgg3) ?_
      refine kd (v_fb fa_58_2) ?_
      refine kd (v_ldb Try.isAgg3) ?_
      refine kd (v_cmp) ?_
      refine kops_nil ?_
      refine kn_then ?_
      refine kwp_cond rfl (fun hc5 => ?_) (fun hc5 => ?_)
      ·
        replace h := e_t h hc5
        refine kwp_seq ?_
        refine kwp_region ?_
        refine kd (v_as) ?_
        refine kops_nil ?_
        refine kn_then ?_
        refine kwp_ret ?_
        refine kr_then ?_
        obtain rfl := e_some h
        refine r1 [] ?_
        exact ⟨rfl, rfl⟩
      ·
        replace h := e_f h hc5
        refine kwp_skip ?_
        refine kn_then ?_
        refine kwp_seq ?_
        refine kwp_seq ?_
        refine kwp_region ?_
        refine kd (v_fb fa_58_3) ?_
        refine kd (v_ldb Try.isAgg3) ?_
        refine kd (v_fb fa_58_3) ?_
        refine kd (v_ldb Try.isAgg3) ?_
        refine kd (v_cmp) ?_
        refine kops_nil ?_
        refine kn_then ?_
        refine kwp_cond rfl (fun hc6 => ?_) (fun hc6 => ?_)
        ·
          replace h := e_t h hc6
          refine kwp_seq ?_
          refine kwp_region ?_
          refine kd (v_as) ?_
          refine kops_nil ?_
          refine kn_then ?_
          refine kwp_ret ?_
          refine kr_then ?_
          obtain rfl := e_some h
          refine r1 [] ?_
          exact ⟨rfl, rfl⟩
        ·
          replace h := e_f h hc6
          refine kwp_skip ?_
          refine kn_then ?_
          refine kwp_seq ?_
          refine kwp_seq ?_
          refine kwp_region ?_
          refine kd (v_fb fa_58_4) ?_
          refine kd (v_ldb Try.isAgg3) ?_
          refine kd (v_fb fa_58_4) ?_
          refine kd (v_ldb Try.isAgg3) ?_
          refine kd (v_cmp) ?_
          refine kops_nil ?_
          refine kn_then ?_
          refine kwp_cond rfl (fun hc7 => ?_) (fun hc7 => ?_)
          ·
            replace h := e_t h hc7
            refine kwp_seq ?_
            refine kwp_region ?_
            refine kd (v_as) ?_
            refine kops_nil ?_
            refine kn_then ?_
            refine kwp_ret ?_
            refine kr_then ?_
            obtain rfl := e_some h
            refine r1 [] ?_
            exact ⟨rfl, rfl⟩
          ·
            replace h := e_f h hc7
            refine kwp_skip ?_
            refine kn_then ?_
            refine kwp_seq ?_
            refine kwp_region ?_
            refine kd (v_as) ?_
            refine kops_nil ?_
            refine kn_then ?_
            refine kwp_ret ?_
            obtain rfl := e_some h
            refine r1 [] ?_
            exact ⟨rfl, rfl⟩

set_option maxRecDepth 20000 in
theorem w_laws_eqLegS (a0a : Option Addr) (a0n : Nat) (a0c : Nat) (b0a : Option Addr) (b0n : Nat) (b0c : Nat) {a0 : List Leg} {b0 : List Leg} {r : Bool} (h : p_laws_eqLegS a0 b0 = some r) :
    Triple Try.prog 34 [.slice a0a a0n a0c, .slice b0a b0n b0c] [⟨.slice a0a a0n a0c, 5, a0.map encLeg⟩, ⟨.slice b0a b0n b0c, 5, b0.map encLeg⟩] [] (fun v ch => v = .bool r ∧ ch = []) := by
  refine triple_start 27 Try.func34 Try.ntmps34 rfl rfl (fun w0 => ?_)
  refine k_len (c := a0c) (fun hl1 => ?_)
  subst hl1
  refine k_len (c := b0c) (fun hl2 => ?_)
  subst hl2
  unfold p_laws_eqLegS at h
  refine kwp_seq ?_
  refine kwp_region ?_
  refine kd (v_as) ?_
  refine kops_nil ?_
  refine kn_then ?_
  refine kwp_seq ?_
  refine kwp_seq ?_
  refine kwp_region ?_
  refine kd (v_mv) ?_
  refine kd (v_len Try.runUnderlying31) ?_
  refine kd (v_mv) ?_
  refine kd (v_len Try.runUnderlying31) ?_
  refine kd (v_cmp) ?_
  refine kops_nil ?_
  refine kn_then ?_
  refine kwp_cond rfl (fun hc3 => ?_) (fun hc3 => ?_)
  ·
    replace h := e_t h hc3
    refine kwp_seq ?_
    refine kwp_region ?_
    refine kd (v_as) ?_
    refine kops_nil ?_
    refine kn_then ?_
    refine kwp_ret ?_
    refine kr_then ?_
    obtain rfl := e_some h
    refine r1 [] ?_
    exact ⟨rfl, rfl⟩
  ·
    replace h := e_f h hc3
    refine kwp_skip ?_
    refine kn_then ?_
    refine kwp_seq ?_
    refine kwp_seq ?_
    refine kwp_region ?_
    refine kd (v_as) ?_
    refine kops_nil ?_
    refine kn_then ?_
    refine kwp_cutO (inv := []) (fun (z : Unit) (y : Unit) => []) (fun (z : Unit) (y : Unit) => []) (fun _ _ => True) h ?_ ?_
    · intro t6 h4 g5
      refine kwp_block ?_
      refine kwp_loopE (inv := [(0, .slice a0a a0.length a0c), (1, .slice b0a b0.length b0c)]) (fun (z : Int) (y : Unit) => [(5, .int .i64 z)]) (fun (z : Int) (y : Unit) => []) (fun _ _ => True) h4 ⟨(), hd_mk trivial⟩ ?_
      intro i7 y11 b8 _ h9
      unfold p_laws_eqLegS_L0 at h9
      refine kwp_seq ?_
      refine kwp_seq ?_
      refine kwp_region ?_
      refine kd (v_mv) ?_
      refine kd (v_mv) ?_
      refine kd (v_len Try.runUnderlying31) ?_
      refine kd (v_cmp) ?_
      refine kops_nil ?_
      refine kn_then ?_
      refine kwp_cond rfl (fun hc12 => ?_) (fun hc12 => ?_)
      ·
        replace h9 := e_t h9 hc12
        refine kwp_skip ?_
        refine kn_then ?_
        refine kwp_seq ?_
        refine kwp_block ?_
        refine kwp_seq ?_
        obtain ⟨j13, ej13, nj13, h9⟩ := e_idx h9
        obtain ⟨j14, ej14, nj14, h9⟩ := e_idx h9
        obtain ⟨v16, hv15, h9⟩ := e_bind h9
        refine kwp_tree (.quiet 0 (.quiet 1 (.quiet 2 (.quiet 3 (.quiet 4 (.quiet 5 (.quiet 6 (.quiet 7 (.one 8 (.quiet 9 .stop)))))))))) [] [] drawMixed (by kernel_rfl) nopan (by (repeat (first | exact Sub.refl _ | exact Sub.nil _ | refine Sub.chunk (by repeat (first | exact Pick.here | apply Pick.there | apply Pick.seg)) (by rfl) ?_ | refine Sub.seg (by repeat (first | exact PickSeg.here | exact PickSeg.all | apply PickSeg.there | apply PickSeg.seg)) ?_ | exact Sub.seg0 (by repeat (first | exact PickSeg.here | exact PickSeg.all | apply PickSeg.there | apply PickSeg.seg)) | apply Sub.assoc))) ?_
        refine kt_d rfl rfl rfl (v_mv) ?_
        refine kt_d rfl rfl rfl (v_mv) ?_
        refine kt_d rfl rfl rfl (v_ia ej13 nj13 Try.runUnderlying31 Try.sizeOf58) ?_
        refine kt_d rfl rfl rfl (v_lda (e := [_, _, _, _, _]) nj13 Try.isAgg58 Try.sizeOf58) ?_
        refine kt_d rfl rfl rfl (v_mv) ?_
        refine kt_d rfl rfl rfl (v_mv) ?_
        refine kt_d rfl rfl rfl (v_ia ej14 nj14 Try.runUnderlying31 Try.sizeOf58) ?_
        refine kt_d rfl rfl rfl (v_lda (e := [_, _, _, _, _]) nj14 Try.isAgg58 Try.sizeOf58) ?_
        refine kt_one ?_
        refine kl_k rfl rfl (n_call Try.call62 (w_laws_eqLeg hv15) ?_)
        rintro _ _ ⟨rfl, rfl⟩
        refine ⟨.inl (by (repeat (first | exact Sub.refl _ | exact Sub.nil _ | refine Sub.chunk (by repeat (first | exact Pick.here | apply Pick.there | apply Pick.seg)) (by rfl) ?_ | refine Sub.seg (by repeat (first | exact PickSeg.here | exact PickSeg.all | apply PickSeg.there | apply PickSeg.seg)) ?_ | exact Sub.seg0 (by repeat (first | exact PickSeg.here | exact PickSeg.all | apply PickSeg.there | apply PickSeg.seg)) | apply Sub.assoc))), ?_⟩
        refine kt_d rfl rfl rfl (v_not) ?_
        refine kt_nil ?_
        refine kn_then ?_
        refine kwp_cond rfl (fun hc18 => ?_) (fun hc18 => ?_)
        ·
          replace h9 := e_t h9 hc18
          refine kwp_seq ?_
          refine kwp_region ?_
          refine kd (v_as) ?_
          refine kops_nil ?_
          refine kn_then ?_
          refine kwp_ret ?_
          refine kr_block ?_
          refine kr_then ?_
          refine kr_then ?_
          obtain rfl := e_some h9
          refine k_out ?_ rfl
          rintro rfl
          refine kr_block ?_
          refine kr_then ?_
          refine kr_then ?_
          obtain rfl := e_some g5
          refine r1 [] ?_
          exact ⟨rfl, rfl⟩
        ·
          replace h9 := e_f h9 hc18
          refine kwp_skip ?_
          refine kn_block ?_
          refine kn_then ?_
          refine kwp_region ?_
          refine kd (v_mv) ?_
          refine kd (v_add) ?_
          refine kd (v_as) ?_
          refine kops_nil ?_
          refine kn_then ?_
          obtain rfl := e_some h9
          exact ⟨_, (), rfl, hd_mk trivial⟩
      ·
        replace h9 := e_f h9 hc12
        refine kwp_exit ?_
        refine ke_then ?_
        obtain rfl := e_some h9
        refine k_out ?_ rfl
        rintro rfl
        refine ke_block ?_
        exact ⟨_, (), rfl, hd_mk trivial⟩
    · intro z19 y20 _ h21
      refine kn_then ?_
      refine kwp_seq ?_
      refine kwp_region ?_
      refine kd (v_as) ?_
      refine kops_nil ?_
      refine kn_then ?_
      refine kwp_ret ?_
      obtain rfl := e_some h21
      refine r1 [] ?_
      exact ⟨rfl, rfl⟩

set_option maxRecDepth 20000 in
theorem w_laws_eqSurvey (a01a : Option Addr) (a01n : Nat) (a01c : Nat) (b01a : Option Addr) (b01n : Nat) (b01c : Nat) {a0 : Survey} {b0 : Survey} {r : Bool} (h : p_laws_eqSurvey a0 b0 = some r) :
    Triple Try.prog 11 [.agg #[.int .i64 a0.st, .slice a01a a01n a01c], .agg #[.int .i64 b0.st, .slice b01a b01n b01c]] [⟨.slice a01a a01n a01c, 5, a0.legs.map encLeg⟩, ⟨.slice b01a b01n b01c, 5, b0.legs.map encLeg⟩] [] (fun v ch => v = .bool r ∧ ch = []) := by
  refine triple_start 16 Try.func11 Try.ntmps11 rfl rfl (fun w0 => ?_)
  refine k_len (c := a01c) (fun hl1 => ?_)
  subst hl1
  refine k_len (c := b01c) (fun hl2 => ?_)
  subst hl2
  unfold p_laws_eqSurvey at h
  refine kwp_seq ?_
  refine kwp_region ?_
  refine kk (n_box (e := [.int .i64 a0.st, .slice a01a a0.legs.length a01c]) 2 (fun p2_3 => ?_))
  refine kk (n_box (e := [.int .i64 b0.st, .slice b01a b0.legs.length b01c]) 2 (fun p3_4 => ?_))
  refine kd (v_as) ?_
  refine kops_nil ?_
  refine kn_then ?_
  refine kwp_seq ?_
  refine kwp_seq ?_
  refine kwp_region ?_
  refine kd (v_fb fa_33_0) ?_
  refine kd (v_ldb Try.isAgg3) ?_
  refine kd (v_fb fa_33_0) ?_
  refine kd (v_ldb Try.isAgg3) ?_
  refine kd (v_cmp) ?_
  refine kops_nil ?_
  refine kn_then ?_
  refine kwp_cond rfl (fun hc5 => ?_) (fun hc5 => ?_)
  ·
    replace h := e_t h hc5
    refine kwp_seq ?_
    refine kwp_region ?_
    refine kd (v_as) ?_
    refine kops_nil ?_
    refine kn_then ?_
    refine kwp_ret ?_
    refine kr_then ?_
    obtain rfl := e_some h
    refine r1 [] ?_
    exact ⟨rfl, rfl⟩
  ·
    replace h := e_f h hc5
    refine kwp_skip ?_
    refine kn_then ?_
    refine kwp_seq ?_
    refine kwp_seq ?_
    refine kwp_region ?_
    refine kd (v_fb fa_33_1) ?_
    refine kd (v_ldb Try.isAgg31) ?_
    refine kd (v_fb fa_33_1) ?_
    refine kd (v_ldb Try.isAgg31) ?_
    obtain ⟨v7, hv6, h⟩ := e_bind h
    refine kk (n_call Try.call34 (w_laws_eqLegS a01a a0.legs.length a01c b01a b0.legs.length b01c hv6) ?_)
    rintro _ _ ⟨rfl, rfl⟩
    refine kd (v_not) ?_
    refine kops_nil ?_
    refine kn_then ?_
    refine kwp_cond rfl (fun hc9 => ?_) (fun hc9 => ?_)
    ·
      replace h := e_t h hc9
      refine kwp_seq ?_
      refine kwp_region ?_
      refine kd (v_as) ?_
      refine kops_nil ?_
      refine kn_then ?_
      refine kwp_ret ?_
      refine kr_then ?_
      obtain rfl := e_some h
      refine r1 [] ?_
      exact ⟨rfl, rfl⟩
    ·
      replace h := e_f h hc9
      refine kwp_skip ?_
      refine kn_then ?_
      refine kwp_seq ?_
      refine kwp_region ?_
      refine kd (v_as) ?_
      refine kops_nil ?_
      refine kn_then ?_
      refine kwp_ret ?_
      obtain rfl := e_some h
      refine r1 [] ?_
      exact ⟨rfl, rfl⟩

set_option maxRecDepth 20000 in
theorem w_laws_markLegS (a0a : Option Addr) (a0n : Nat) (a0c : Nat) {a0 : List Leg} {k0 : Int} {r : Int × List Leg} (h : p_laws_markLegS a0 k0 = some r) :
    Triple Try.prog 35 [.slice a0a a0n a0c, .int .i64 k0] [] [⟨.slice a0a a0n a0c, 5, a0.map encLeg⟩] (fun v ch => v = .int .i64 r.1 ∧ ch = [⟨.slice a0a a0n a0c, 5, r.2.map encLeg⟩]) := by
  refine triple_start 48 Try.func35 Try.ntmps35 rfl rfl (fun w0 => ?_)
  refine k_len (c := a0c) (fun hl1 => ?_)
  subst hl1
  unfold p_laws_markLegS at h
  refine kwp_seq ?_
  refine kwp_region ?_
  refine kd (v_as) ?_
  refine kops_nil ?_
  refine kn_then ?_
  refine kwp_seq ?_
  refine kwp_seq ?_
  refine kwp_region ?_
  refine kd (v_as) ?_
  refine kops_nil ?_
  refine kn_then ?_
  refine kwp_cutE (inv := []) (fun (z : Int × List Leg) (y : Unit) => [(1, .int .i64 z.1)]) (fun (z : Int × List Leg) (y : Unit) => [⟨.slice a0a (a0.length) a0c, 5, z.2.map encLeg⟩]) (fun _ _ => True) h ?_ ?_
  · intro t6 h4
    refine kwp_block ?_
    refine kwp_loopE (inv := [(0, .slice a0a a0.length a0c)]) (fun (z : Int × Int × List Leg) (y : Unit) => [(1, .int .i64 z.1), (5, .int .i64 z.2.1)]) (fun (z : Int × Int × List Leg) (y : Unit) => [⟨.slice a0a (a0.length) a0c, 5, z.2.2.map encLeg⟩]) (fun _ _ => True) h4 ⟨(), hd_mk trivial⟩ ?_
    intro z12 y13 b10 _ h11
    obtain ⟨k7, i8, l9⟩ := z12
    unfold p_laws_markLegS_L0 at h11
    refine kwp_seq ?_
    refine kwp_seq ?_
    refine kwp_region ?_
    refine kd (v_mv) ?_
    refine kd (v_mv) ?_
    refine kd (v_len Try.runUnderlying31) ?_
    refine kd (v_cmp) ?_
    refine kops_nil ?_
    refine kn_then ?_
    refine kwp_cond rfl (fun hc14 => ?_) (fun hc14 => ?_)
    ·
      replace h11 := e_t h11 hc14
      refine kwp_skip ?_
      refine kn_then ?_
      refine kwp_seq ?_
      refine kwp_block ?_
      refine kwp_seq ?_
      refine kwp_region ?_
      refine kd (v_mv) ?_
      refine kd (v_mv) ?_
      refine kd (v_mv) ?_
      obtain ⟨j15, ej15, nj15, h11⟩ := e_idx h11
      refine kd (v_ia ej15 nj15 Try.runUnderlying31 Try.sizeOf58) ?_
      refine kd (v_fa nj15 fa_58_0) ?_
      refine kk (s_f { gx l9 j15 with f := k7 } nj15 Try.sizeOf3 ?_)
      refine kops_nil ?_
      refine kn_then ?_
      refine kwp_seq ?_
      refine kwp_region ?_
      refine kd (v_mv) ?_
      refine kd (v_add) ?_
      refine kd (v_as) ?_
      refine kops_nil ?_
      refine kn_then ?_
      refine kwp_seq ?_
      refine kwp_region ?_
      refine kd (v_mv) ?_
      refine kd (v_mv) ?_
      refine kd (v_mv) ?_
      refine kd (v_ia ej15 nj15 Try.runUnderlying31 Try.sizeOf58) ?_
      refine kd (v_fa nj15 fa_58_1) ?_
      refine kk (s_f { gx (l9.set j15 { gx l9 j15 with f := k7 }) j15 with t := w64 (k7 + 1) } nj15 Try.sizeOf3 ?_)
      refine kops_nil ?_
      refine kn_then ?_
      refine kwp_seq ?_
      refine kwp_region ?_
      refine kd (v_mv) ?_
      refine kd (v_add) ?_
      refine kd (v_as) ?_
      refine kops_nil ?_
      refine kn_then ?_
      refine kwp_seq ?_
      refine kwp_region ?_
      refine kd (v_mv) ?_
      refine kd (v_mv) ?_
      refine kd (v_mv) ?_
      refine kd (v_ia ej15 nj15 Try.runUnderlying31 Try.sizeOf58) ?_
      refine kd (v_fa nj15 fa_58_2) ?_
      refine kk (s_f { gx ((l9.set j15 { gx l9 j15 with f := k7 }).set j15 { gx (l9.set j15 { gx l9 j15 with f := k7 }) j15 with t := w64 (k7 + 1) }) j15 with e := w64 ((w64 (k7 + 1)) + 1) } nj15 Try.sizeOf3 ?_)
      refine kops_nil ?_
      refine kn_then ?_
      refine kwp_seq ?_
      refine kwp_region ?_
      refine kd (v_mv) ?_
      refine kd (v_add) ?_
      refine kd (v_as) ?_
      refine kops_nil ?_
      refine kn_then ?_
      refine kwp_seq ?_
      refine kwp_region ?_
      refine kd (v_mv) ?_
      refine kd (v_mv) ?_
      refine kd (v_mv) ?_
      refine kd (v_ia ej15 nj15 Try.runUnderlying31 Try.sizeOf58) ?_
      refine kd (v_fa nj15 fa_58_3) ?_
      refine kk (s_f { gx (((l9.set j15 { gx l9 j15 with f := k7 }).set j15 { gx (l9.set j15 { gx l9 j15 with f := k7 }) j15 with t := w64 (k7 + 1) }).set j15 { gx ((l9.set j15 { gx l9 j15 with f := k7 }).set j15 { gx (l9.set j15 { gx l9 j15 with f := k7 }) j15 with t := w64 (k7 + 1) }) j15 with e := w64 ((w64 (k7 + 1)) + 1) }) j15 with n := w64 ((w64 ((w64 (k7 + 1)) + 1)) + 1) } nj15 Try.sizeOf3 ?_)
      refine kops_nil ?_
      refine kn_then ?_
      refine kwp_seq ?_
      refine kwp_region ?_
      refine kd (v_mv) ?_
      refine kd (v_add) ?_
      refine kd (v_as) ?_
      refine kops_nil ?_
      refine kn_then ?_
      refine kwp_seq ?_
      refine kwp_region ?_
      refine kd (v_mv) ?_
      refine kd (v_mv) ?_
      refine kd (v_mv) ?_
      refine kd (v_ia ej15 nj15 Try.runUnderlying31 Try.sizeOf58) ?_
      refine kd (v_fa nj15 fa_58_4) ?_
      refine kk (s_f { gx ((((l9.set j15 { gx l9 j15 with f := k7 }).set j15 { gx (l9.set j15 { gx l9 j15 with f := k7 }) j15 with t := w64 (k7 + 1) }).set j15 { gx ((l9.set j15 { gx l9 j15 with f := k7 }).set j15 { gx (l9.set j15 { gx l9 j15 with f := k7 }) j15 with t := w64 (k7 + 1) }) j15 with e := w64 ((w64 (k7 + 1)) + 1) }).set j15 { gx (((l9.set j15 { gx l9 j15 with f := k7 }).set j15 { gx (l9.set j15 { gx l9 j15 with f := k7 }) j15 with t := w64 (k7 + 1) }).set j15 { gx ((l9.set j15 { gx l9 j15 with f := k7 }).set j15 { gx (l9.set j15 { gx l9 j15 with f := k7 }) j15 with t := w64 (k7 + 1) }) j15 with e := w64 ((w64 (k7 + 1)) + 1) }) j15 with n := w64 ((w64 ((w64 (k7 + 1)) + 1)) + 1) }) j15 with u := w64 ((w64 ((w64 ((w64 (k7 + 1)) + 1)) + 1)) + 1) } nj15 Try.sizeOf3 ?_)
      refine kops_nil ?_
      refine kn_then ?_
      refine kwp_region ?_
      refine kd (v_mv) ?_
      refine kd (v_add) ?_
      refine kd (v_as) ?_
      refine kops_nil ?_
      refine kn_block ?_
      refine kn_then ?_
      refine kwp_region ?_
      refine kd (v_mv) ?_
      refine kd (v_add) ?_
      refine kd (v_as) ?_
      refine kops_nil ?_
      refine kn_then ?_
      obtain rfl := e_some h11
      exact ⟨_, (), rfl, hd_mk trivial⟩
    ·
      replace h11 := e_f h11 hc14
      refine kwp_exit ?_
      refine ke_then ?_
      obtain rfl := e_some h11
      refine k_out ?_ rfl
      rintro rfl
      refine ke_block ?_
      exact ⟨(), hd_mk trivial⟩
  · intro z16 y17 _ h18
    obtain ⟨k2, l3⟩ := z16
    refine kn_then ?_
    refine kwp_seq ?_
    refine kwp_region ?_
    refine kd (v_mv) ?_
    refine kd (v_as) ?_
    refine kops_nil ?_
    refine kn_then ?_
    refine kwp_ret ?_
    obtain rfl := e_some h18
    refine r1 [⟨.slice a0a (a0.length) a0c, 5, l3.map encLeg⟩] ?_
    exact ⟨rfl, rfl⟩

set_option maxRecDepth 20000 in
theorem w_laws_markSurvey (a01a : Option Addr) (a01n : Nat) (a01c : Nat) {a0 : Survey} {k0 : Int} {r : Int × List Leg} (h : p_laws_markSurvey a0 k0 = some r) :
    Triple Try.prog 12 [.agg #[.int .i64 a0.st, .slice a01a a01n a01c], .int .i64 k0] [] [⟨.slice a01a a01n a01c, 5, a0.legs.map encLeg⟩] (fun v ch => v = .int .i64 r.1 ∧ ch = [⟨.slice a01a a01n a01c, 5, r.2.map encLeg⟩]) := by
  refine triple_start 10 Try.func12 Try.ntmps12 rfl rfl (fun w0 => ?_)
  refine k_len (c := a01c) (fun hl1 => ?_)
  subst hl1
  unfold p_laws_markSurvey at h
  refine kwp_seq ?_
  refine kwp_region ?_
  refine kk (n_box (e := [.int .i64 a0.st, .slice a01a a0.legs.length a01c]) 2 (fun p2_2 => ?_))
  refine kd (v_as) ?_
  refine kops_nil ?_
  refine kn_then ?_
  refine kwp_seq ?_
  refine kwp_region ?_
  refine kd (v_fb fa_33_1) ?_
  refine kd (v_ldb Try.isAgg31) ?_
  refine kd (v_mv) ?_
  obtain ⟨⟨v4, v5⟩, hv3, h⟩ := e_bind h
  refine kk (n_call Try.call35 (w_laws_markLegS a01a a0.legs.length a01c hv3) ?_)
  rintro _ _ ⟨rfl, rfl⟩
  refine kd (v_as) ?_
  refine kops_nil ?_
  refine kn_then ?_
  refine kwp_seq ?_
  refine kwp_region ?_
  refine kd (v_mv) ?_
  refine kd (v_as) ?_
  refine kops_nil ?_
  refine kn_then ?_
  refine kwp_ret ?_
  obtain rfl := e_some h
  refine r1 [⟨.slice a01a (a0.legs.length) a01c, 5, v5.map encLeg⟩] ?_
  exact ⟨rfl, rfl⟩

end Go.Proofs.Ytkhjbfngafebeaa
