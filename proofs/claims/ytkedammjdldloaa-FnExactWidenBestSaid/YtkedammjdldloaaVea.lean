/- What the plain programs return, the functions of the program return; no condition. -/
import Derived.Test.YtkedammjdldloaaQea
import Derived.Test.YtkedammjdldloaaFa
namespace Go.Proofs.Ytkedammjdldloaa
open Go
set_option linter.unusedVariables false
set_option linter.unusedSimpArgs false

set_option maxRecDepth 20000 in
theorem w_laws_szAirwayS (a0a : Option Addr) (a0n : Nat) (a0c : Nat) {a0 : List Airway} {left0 : Int} {r : Int} (h : p_laws_szAirwayS a0 left0 = some r) :
    Triple Try.prog 52 [.slice a0a a0n a0c, .int .i64 left0] [⟨.slice a0a a0n a0c, 3, a0.map encAirway⟩] [] (fun v ch => v = .int .i64 r ∧ ch = []) := by
  refine triple_start 12 Try.func52 Try.ntmps52 rfl rfl (fun w0 => ?_)
  refine k_len (c := a0c) (fun hl1 => ?_)
  subst hl1
  unfold p_laws_szAirwayS at h
  refine kwp_seq ?_
  refine kwp_region ?_
  refine kd (v_as) ?_
  refine kops_nil ?_
  refine kn_then ?_
  refine kwp_seq ?_
  refine kwp_region ?_
  refine kd (v_mv) ?_
  refine kd (v_mv) ?_
  refine kd (v_len Try.runUnderlying22) ?_
  refine kd (v_sub) ?_
  refine kd (v_as) ?_
  refine kops_nil ?_
  refine kn_then ?_
  refine kwp_seq ?_
  refine kwp_seq ?_
  refine kwp_region ?_
  refine kd (v_mv) ?_
  refine kd (v_cmp) ?_
  refine kops_nil ?_
  refine kn_then ?_
  refine kwp_cond rfl (fun hc2 => ?_) (fun hc2 => ?_)
  ·
    replace h := e_t h hc2
    refine kwp_seq ?_
    refine kwp_region ?_
    refine kd (v_as) ?_
    refine kops_nil ?_
    refine kn_then ?_
    refine kwp_ret ?_
    refine kr_then ?_
    obtain rfl := e_some h
    refine r1 [] ?_
    exact ⟨rfl, rfl⟩
  ·
    replace h := e_f h hc2
    refine kwp_skip ?_
    refine kn_then ?_
    refine kwp_seq ?_
    refine kwp_region ?_
    refine kd (v_mv) ?_
    refine kd (v_as) ?_
    refine kops_nil ?_
    refine kn_then ?_
    refine kwp_ret ?_
    obtain rfl := e_some h
    refine r1 [] ?_
    exact ⟨rfl, rfl⟩

set_option maxRecDepth 20000 in
theorem w_laws_szMine (a01a : Option Addr) (a01n : Nat) (a01c : Nat) {a0 : Mine} {left0 : Int} {r : Int} (h : p_laws_szMine a0 left0 = some r) :
    Triple Try.prog 13 [.agg #[.int .i64 a0.p, .slice a01a a01n a01c], .int .i64 left0] [⟨.slice a01a a01n a01c, 3, a0.aw.map encAirway⟩] [] (fun v ch => v = .int .i64 r ∧ ch = []) := by
  refine triple_start 12 Try.func13 Try.ntmps13 rfl rfl (fun w0 => ?_)
  refine k_len (c := a01c) (fun hl1 => ?_)
  subst hl1
  unfold p_laws_szMine at h
  refine kwp_seq ?_
  refine kwp_region ?_
  refine kk (n_box (e := [.int .i64 a0.p, .slice a01a a0.aw.length a01c]) 2 (fun p2_2 => ?_))
  refine kd (v_as) ?_
  refine kops_nil ?_
  refine kn_then ?_
  refine kwp_seq ?_
  refine kwp_region ?_
  refine kd (v_fb fa_24_1) ?_
  refine kd (v_ldb Try.isAgg22) ?_
  refine kd (v_mv) ?_
  obtain ⟨v4, hv3, h⟩ := e_bind h
  refine kk (n_call Try.call52 (w_laws_szAirwayS a01a a0.aw.length a01c hv3) ?_)
  rintro _ _ ⟨rfl, rfl⟩
  refine kd (v_as) ?_
  refine kops_nil ?_
  refine kn_then ?_
  refine kwp_seq ?_
  refine kwp_seq ?_
  refine kwp_region ?_
  refine kd (v_mv) ?_
  refine kd (v_cmp) ?_
  refine kops_nil ?_
  refine kn_then ?_
  refine kwp_cond rfl (fun hc6 => ?_) (fun hc6 => ?_)
  ·
    replace h := e_t h hc6
    refine kwp_seq ?_
    refine kwp_region ?_
    refine kd (v_as) ?_
    refine kops_nil ?_
    refine kn_then ?_
    refine kwp_ret ?_
    refine kr_then ?_
    obtain rfl := e_some h
    refine r1 [] ?_
    exact ⟨rfl, rfl⟩
  ·
    replace h := e_f h hc6
    refine kwp_skip ?_
    refine kn_then ?_
    refine kwp_seq ?_
    refine kwp_region ?_
    refine kd (v_mv) ?_
    refine kd (v_as) ?_
    refine kops_nil ?_
    refine kn_then ?_
    refine kwp_ret ?_
    obtain rfl := e_some h
    refine r1 [] ?_
    exact ⟨rfl, rfl⟩

set_option maxRecDepth 20000 in
theorem w_laws_toAirway  {a0 : Airway} {r : Airway} (h : p_laws_toAirway a0 = some r) :
    Triple Try.prog 100 [.agg #[.int .i64 a0.f, .int .i64 a0.t, .int .i64 a0.w]] [] [] (fun v ch => v = .agg #[.int .i64 r.f, .int .i64 r.t, .int .i64 r.w] ∧ ch = []) := by
  refine triple_start 14 Try.func100 Try.ntmps100 rfl rfl (fun w0 => ?_)
  unfold p_laws_toAirway at h
  refine kwp_seq ?_
  refine kwp_region ?_
  refine kk (n_box (e := [.int .i64 a0.f, .int .i64 a0.t, .int .i64 a0.w]) 3 (fun p1_1 => ?_))
  refine kk (n_alloc (e := [.int .i64 0, .int .i64 0, .int .i64 0]) 3 Try.zeroValue81 (fun p2_2 => ?_))
  refine kops_nil ?_
  refine kn_then ?_
  refine kwp_seq ?_
  refine kwp_region ?_
  refine kk (n_alloc (e := [.int .i64 0, .int .i64 0, .int .i64 0]) 3 Try.zeroValue81 (fun p3_3 => ?_))
  refine kops_nil ?_
  refine kn_then ?_
  refine kwp_seq ?_
  refine kwp_region ?_
  refine kd (v_fb fa_115_0) ?_
  refine kd (v_ldb Try.isAgg3) ?_
  refine kd (v_fb fa_81_0) ?_
  refine kk (s_b (e' := [.int .i64 a0.f, .int .i64 0, .int .i64 0]) Try.sizeOf3 ?_)
  refine kops_nil ?_
  refine kn_then ?_
  refine kwp_seq ?_
  refine kwp_region ?_
  refine kd (v_fb fa_115_1) ?_
  refine kd (v_ldb Try.isAgg3) ?_
  refine kd (v_fb fa_81_1) ?_
  refine kk (s_b (e' := [.int .i64 a0.f, .int .i64 a0.t, .int .i64 0]) Try.sizeOf3 ?_)
  refine kops_nil ?_
  refine kn_then ?_
  refine kwp_seq ?_
  refine kwp_region ?_
  refine kd (v_fb fa_115_2) ?_
  refine kd (v_ldb Try.isAgg3) ?_
  refine kd (v_fb fa_81_2) ?_
  refine kk (s_b (e' := [.int .i64 a0.f, .int .i64 a0.t, .int .i64 a0.w]) Try.sizeOf3 ?_)
  refine kops_nil ?_
  refine kn_then ?_
  refine kwp_seq ?_
  refine kwp_region ?_
  refine kd (v_ldB Try.isAgg81 Try.sizeOf81) ?_
  refine kk (s_B (e' := [.int .i64 a0.f, .int .i64 a0.t, .int .i64 a0.w]) Try.sizeOf81 ?_)
  refine kops_nil ?_
  refine kn_then ?_
  refine kwp_ret ?_
  obtain rfl := e_some h
  refine rc Try.isAgg81 Try.sizeOf81 [] ?_
  exact ⟨rfl, rfl⟩

set_option maxRecDepth 20000 in
theorem w_laws_toAirwayS (a0a : Option Addr) (a0n : Nat) (a0c : Nat) {a0 : List Airway} {r : List Airway} (h : p_laws_toAirwayS a0 = some r) :
    Triple Try.prog 56 [.slice a0a a0n a0c] [⟨.slice a0a a0n a0c, 3, a0.map encAirway⟩] [] (fun v ch => ∃ (w0a : Option Addr) (w0c : Nat), v = .slice w0a r.length w0c ∧ ch = [⟨.slice w0a r.length w0c, 3, r.map encAirway⟩]) := by
  refine triple_start 23 Try.func56 Try.ntmps56 rfl rfl (fun w0 => ?_)
  refine k_len (c := a0c) (fun hl1 => ?_)
  subst hl1
  unfold p_laws_toAirwayS at h
  refine kwp_seq ?_
  refine kwp_region ?_
  refine kops_nilchunk 3 (by decide) ?_
  refine kd (v_as) ?_
  refine kops_nil ?_
  refine kn_then ?_
  refine kwp_seq ?_
  refine kwp_region ?_
  refine kd (v_mv) ?_
  refine kd (v_len Try.runUnderlying22) ?_
  obtain ⟨j2, ej2, nj2, h⟩ := e_sized h
  refine kk (n_make (enc := encAirway) (⟨0, 0, 0⟩ : Airway) ej2 nj2 Try.underlying27 Try.type81 (by decide) (fun a3 => ?_))
  refine kd (v_as) ?_
  refine kops_nil ?_
  refine kn_then ?_
  refine kwp_seq ?_
  refine kwp_seq ?_
  refine kwp_region ?_
  refine kd (v_as) ?_
  refine kops_nil ?_
  refine kn_then ?_
  refine kwp_cutE (inv := [(3, .slice (some a3) j2 j2)]) (fun (z : List Airway) (y : Unit) => []) (fun (z : List Airway) (y : Unit) => [⟨.slice (some a3) j2 j2, 3, z.map encAirway⟩]) (fun _ _ => True) h ?_ ?_
  · intro t7 h5
    refine kwp_block ?_
    refine kwp_loopE (inv := [(0, .slice a0a a0.length a0c), (3, .slice (some a3) j2 j2)]) (fun (z : Int × List Airway) (y : Unit) => [(4, .int .i64 z.1)]) (fun (z : Int × List Airway) (y : Unit) => [⟨.slice (some a3) j2 j2, 3, z.2.map encAirway⟩]) (fun _ _ => True) h5 ⟨(), hd_mk trivial⟩ ?_
    intro z12 y13 b10 _ h11
    obtain ⟨i8, l9⟩ := z12
    unfold p_laws_toAirwayS_L0 at h11
    refine kwp_seq ?_
    refine kwp_seq ?_
    refine kwp_region ?_
    refine kd (v_mv) ?_
    refine kd (v_mv) ?_
    refine kd (v_len Try.runUnderlying22) ?_
    refine kd (v_cmp) ?_
    refine kops_nil ?_
    refine kn_then ?_
    refine kwp_cond rfl (fun hc14 => ?_) (fun hc14 => ?_)
    ·
      replace h11 := e_t h11 hc14
      refine kwp_skip ?_
      refine kn_then ?_
      refine kwp_seq ?_
      refine kwp_block ?_
      refine kwp_region ?_
      refine kd (v_mv) ?_
      refine kd (v_mv) ?_
      refine kd (v_mv) ?_
      refine kd (v_mv) ?_
      obtain ⟨j15, ej15, nj15, h11⟩ := e_idx h11
      refine kd (v_ia ej15 nj15 Try.runUnderlying22 Try.sizeOf115) ?_
      refine kd (v_lda (e := [_, _, _]) nj15 Try.isAgg115 Try.sizeOf115) ?_
      obtain ⟨v17, hv16, h11⟩ := e_bind h11
      refine kk (n_call Try.call100 (w_laws_toAirway hv16) ?_)
      rintro _ _ ⟨rfl, rfl⟩
      obtain ⟨j19, ej19, nj19, h11⟩ := e_idx h11
      refine kd (v_ia ej19 nj19 Try.runUnderlying27 Try.sizeOf81) ?_
      refine kk (s_a v17 nj19 Try.sizeOf81 ?_ (ok_encAirway _))
      refine kops_nil ?_
      refine kn_block ?_
      refine kn_then ?_
      refine kwp_region ?_
      refine kd (v_mv) ?_
      refine kd (v_add) ?_
      refine kd (v_as) ?_
      refine kops_nil ?_
      refine kn_then ?_
      obtain rfl := e_some h11
      exact ⟨_, (), rfl, hd_mk trivial⟩
    ·
      replace h11 := e_f h11 hc14
      refine kwp_exit ?_
      refine ke_then ?_
      obtain rfl := e_some h11
      refine k_out ?_ rfl
      rintro rfl
      refine ke_block ?_
      exact ⟨(), hd_mk trivial⟩
  · intro l4 y21 _ h22
    refine kn_then ?_
    refine kwp_seq ?_
    refine kwp_region ?_
    refine kd (v_mv) ?_
    refine kd (v_as) ?_
    refine kops_nil ?_
    refine kn_then ?_
    refine k_len (c := j2) (fun hl23 => ?_)
    subst hl23
    refine kwp_ret ?_
    obtain rfl := e_some h22
    refine r1 [⟨.slice (some a3) (l4.length) (l4.length), 3, l4.map encAirway⟩] ?_
    exact ⟨some a3, (l4.length), rfl, rfl⟩

set_option maxRecDepth 20000 in
theorem w_laws_toMine (a01a : Option Addr) (a01n : Nat) (a01c : Nat) {a0 : Mine} {r : Mine} (h : p_laws_toMine a0 = some r) :
    Triple Try.prog 15 [.agg #[.int .i64 a0.p, .slice a01a a01n a01c]] [⟨.slice a01a a01n a01c, 3, a0.aw.map encAirway⟩] [] (fun v ch => ∃ (w01a : Option Addr) (w01c : Nat), v = .agg #[.int .i64 r.p, .slice w01a r.aw.length w01c] ∧ ch = [⟨.slice w01a r.aw.length w01c, 3, r.aw.map encAirway⟩]) := by
  refine triple_start 12 Try.func15 Try.ntmps15 rfl rfl (fun w0 => ?_)
  refine k_len (c := a01c) (fun hl1 => ?_)
  subst hl1
  unfold p_laws_toMine at h
  refine kwp_seq ?_
  refine kwp_region ?_
  refine kk (n_box (e := [.int .i64 a0.p, .slice a01a a0.aw.length a01c]) 2 (fun p1_2 => ?_))
  refine kops_nilchunk 3 (by decide) ?_
  refine kk (n_alloc (e := [.int .i64 0, .slice none 0 0]) 2 Try.zeroValue29 (fun p2_3 => ?_))
  refine kops_nil ?_
  refine kn_then ?_
  refine kwp_seq ?_
  refine kwp_region ?_
  refine kops_nilchunk 3 (by decide) ?_
  refine kk (n_alloc (e := [.int .i64 0, .slice none 0 0]) 2 Try.zeroValue29 (fun p3_4 => ?_))
  refine kops_nil ?_
  refine kn_then ?_
  refine kwp_seq ?_
  refine kwp_region ?_
  refine kd (v_fb fa_24_0) ?_
  refine kd (v_ldb Try.isAgg3) ?_
  refine kd (v_fb fa_29_0) ?_
  refine kk (s_b (e' := [.int .i64 a0.p, .slice none 0 0]) Try.sizeOf3 ?_)
  refine kops_nil ?_
  refine kn_then ?_
  refine kwp_seq ?_
  refine kwp_region ?_
  refine kd (v_fb fa_24_1) ?_
  refine kd (v_ldb Try.isAgg22) ?_
  obtain ⟨v6, hv5, h⟩ := e_bind h
  refine kk (n_call Try.call56 (w_laws_toAirwayS a01a a0.aw.length a01c hv5) ?_)
  rintro _ _ ⟨q7a, q7c, rfl, rfl⟩
  refine kd (v_fb fa_29_1) ?_
  refine kk (s_b (e' := [.int .i64 a0.p, .slice q7a v6.length q7c]) Try.sizeOf27 ?_)
  refine kops_nil ?_
  refine kn_then ?_
  refine kwp_seq ?_
  refine kwp_region ?_
  refine kd (v_ldB Try.isAgg29 Try.sizeOf29) ?_
  refine kk (s_B (e' := [.int .i64 a0.p, .slice q7a v6.length q7c]) Try.sizeOf29 ?_)
  refine kops_nil ?_
  refine kn_then ?_
  refine kwp_ret ?_
  obtain rfl := e_some h
  refine rc Try.isAgg29 Try.sizeOf29 [⟨.slice q7a v6.length q7c, 3, v6.map encAirway⟩] ?_
  exact ⟨q7a, q7c, rfl, rfl⟩

set_option maxRecDepth 20000 in
theorem w_laws_eqAirway  {a0 : Airway} {b0 : Airway} {r : Bool} (h : p_laws_eqAirway a0 b0 = some r) :
    Triple Try.prog 105 [.agg #[.int .i64 a0.f, .int .i64 a0.t, .int .i64 a0.w], .agg #[.int .i64 b0.f, .int .i64 b0.t, .int .i64 b0.w]] [] [] (fun v ch => v = .bool r ∧ ch = []) := by
  refine triple_start 20 Try.func105 Try.ntmps105 rfl rfl (fun w0 => ?_)
  unfold p_laws_eqAirway at h
  refine kwp_seq ?_
  refine kwp_region ?_
  refine kk (n_box (e := [.int .i64 a0.f, .int .i64 a0.t, .int .i64 a0.w]) 3 (fun p2_1 => ?_))
  refine kk (n_box (e := [.int .i64 b0.f, .int .i64 b0.t, .int .i64 b0.w]) 3 (fun p3_2 => ?_))
  refine kd (v_as) ?_
  refine kops_nil ?_
  refine kn_then ?_
  refine kwp_seq ?_
  refine kwp_seq ?_
  refine kwp_region ?_
  refine kd (v_fb fa_81_0) ?_
  refine kd (v_ldb Try.isAgg3) ?_
  refine kd (v_fb fa_81_0) ?_
  refine kd (v_ldb Try.isAgg3) ?_
  refine kd (v_cmp) ?_
  refine kops_nil ?_
  refine kn_then ?_
  refine kwp_cond rfl (fun hc3 => ?_) (fun hc3 => ?_)
  ·
    replace h := e_t h hc3
    refine kwp_seq ?_
    refine kwp_region ?_
    refine kd (v_as) ?_
    refine kops_nil ?_
    refine kn_then ?_
    refine kwp_ret ?_
    refine kr_then ?_
    obtain rfl := e_some h
    refine r1 [] ?_
    exact ⟨rfl, rfl⟩
  ·
    replace h := e_f h hc3
    refine kwp_skip ?_
    refine kn_then ?_
    refine kwp_seq ?_
    refine kwp_seq ?_
    refine kwp_region ?_
    refine kd (v_fb fa_81_1) ?_
    refine kd (v_ldb Try.isAgg3) ?_
    refine kd (v_fb fa_81_1) ?_
    refine kd (v_ldb Try.isAgg3) ?_
    refine kd (v_cmp) ?_
    refine kops_nil ?_
    refine kn_then ?_
    refine kwp_cond rfl (fun hc4 => ?_) (fun hc4 => ?_)
    ·
      replace h := e_t h hc4
      refine kwp_seq ?_
      refine kwp_region ?_
      refine kd (v_as) ?_
      refine kops_nil ?_
      refine kn_then ?_
      refine kwp_ret ?_
      refine kr_then ?_
      obtain rfl := e_some h
      refine r1 [] ?_
      exact ⟨rfl, rfl⟩
    ·
      replace h := e_f h hc4
      refine kwp_skip ?_
      refine kn_then ?_
      refine kwp_seq ?_
      refine kwp_seq ?_
      refine kwp_region ?_
      refine kd (v_fb fa_81_2) ?_
      refine kd (v_ldb Try.isAgg3) ?_
      refine kd (v_fb fa_81_2) ?_
      refine kd (v_ldb Try.isAgg3) ?_
      refine kd (v_cmp) ?_
      refine kops_nil ?_
      refine kn_then ?_
      refine kwp_cond rfl (fun hc5 => ?_) (fun hc5 => ?_)
      ·
        replace h := e_t h hc5
        refine kwp_seq ?_
        refine kwp_region ?_
        refine kd (v_as) ?_
        refine kops_nil ?_
        refine kn_then ?_
        refine kwp_ret ?_
        refine kr_then ?_
        obtain rfl := e_some h
        refine r1 [] ?_
        exact ⟨rfl, rfl⟩
      ·
        replace h := e_f h hc5
        refine kwp_skip ?_
        refine kn_then ?_
        refine kwp_seq ?_
        refine kwp_region ?_
        refine kd (v_as) ?_
        refine kops_nil ?_
        refine kn_then ?_
        refine kwp_ret ?_
        obtain rfl := e_some h
        refine r1 [] ?_
        exact ⟨rfl, rfl⟩

set_option maxRecDepth 20000 in
theorem w_laws_eqAirwayS (a0a : Option Addr) (a0n : Nat) (a0c : Nat) (b0a : Option Addr) (b0n : Nat) (b0c : Nat) {a0 : List Airway} {b0 : List Airway} {r : Bool} (h : p_laws_eqAirwayS a0 b0 = some r) :
    Triple Try.prog 60 [.slice a0a a0n a0c, .slice b0a b0n b0c] [⟨.slice a0a a0n a0c, 3, a0.map encAirway⟩, ⟨.slice b0a b0n b0c, 3, b0.map encAirway⟩] [] (fun v ch => v = .bool r ∧ ch = []) := by
  refine triple_start 27 Try.func60 Try.ntmps60 rfl rfl (fun w0 => ?_)
  refine k_len (c := a0c) (fun hl1 => ?_)
  subst hl1
  refine k_len (c := b0c) (fun hl2 => ?_)
  subst hl2
  unfold p_laws_eqAirwayS at h
  refine kwp_seq ?_
  refine kwp_region ?_
  refine kd (v_as) ?_
  refine kops_nil ?_
  refine kn_then ?_
  refine kwp_seq ?_
  refine kwp_seq ?_
  refine kwp_region ?_
  refine kd (v_mv) ?_
  refine kd (v_len Try.runUnderlying27) ?_
  refine kd (v_mv) ?_
  refine kd (v_len Try.runUnderlying27) ?_
  refine kd (v_cmp) ?_
  refine kops_nil ?_
  refine kn_then ?_
  refine kwp_cond rfl (fun hc3 => ?_) (fun hc3 => ?_)
  ·
    replace h := e_t h hc3
    refine kwp_seq ?_
    refine kwp_region ?_
    refine kd (v_as) ?_
    refine kops_nil ?_
    refine kn_then ?_
    refine kwp_ret ?_
    refine kr_then ?_
    obtain rfl := e_some h
    refine r1 [] ?_
    exact ⟨rfl, rfl⟩
  ·
    replace h := e_f h hc3
    refine kwp_skip ?_
    refine kn_then ?_
    refine kwp_seq ?_
    refine kwp_seq ?_
    refine kwp_region ?_
    refine kd (v_as) ?_
    refine kops_nil ?_
    refine kn_then ?_
    refine kwp_cutO (inv := []) (fun (z : Unit) (y : Unit) => []) (fun (z : Unit) (y : Unit) => []) (fun _ _ => True) h ?_ ?_
    · intro t6 h4 g5
      refine kwp_block ?_
      refine kwp_loopE (inv := [(0, .slice a0a a0.length a0c), (1, .slice b0a b0.length b0c)]) (fun (z : Int) (y : Unit) => [(5, .int .i64 z)]) (fun (z : Int) (y : Unit) => []) (fun _ _ => True) h4 ⟨(), hd_mk trivial⟩ ?_
      intro i7 y11 b8 _ h9
      unfold p_laws_eqAirwayS_L0 at h9
      refine kwp_seq ?_
      refine kwp_seq ?_
      refine kwp_region ?_
      refine kd (v_mv) ?_
      refine kd (v_mv) ?_
      refine kd (v_len Try.runUnderlying27) ?_
      refine kd (v_cmp) ?_
      refine kops_nil ?_
      refine kn_then ?_
      refine kwp_cond rfl (fun hc12 => ?_) (fun hc12 => ?_)
      ·
        replace h9 := e_t h9 hc12
        refine kwp_skip ?_
        refine kn_then ?_
        refine kwp_seq ?_
        refine kwp_block ?_
        refine kwp_seq ?_
        obtain ⟨j13, ej13, nj13, h9⟩ := e_idx h9
        obtain ⟨j14, ej14, nj14, h9⟩ := e_idx h9
        obtain ⟨v16, hv15, h9⟩ := e_bind h9
        refine kwp_tree (.quiet 0 (.quiet 1 (.quiet 2 (.quiet 3 (.quiet 4 (.quiet 5 (.quiet 6 (.quiet 7 (.one 8 (.quiet 9 .stop)))))))))) [] [] drawMixed (by kernel_rfl) nopan (by (repeat (first | exact Sub.refl _ | exact Sub.nil _ | refine Sub.chunk (by repeat (first | exact Pick.here | apply Pick.there | apply Pick.seg)) (by rfl) ?_ | refine Sub.seg (by repeat (first | exact PickSeg.here | exact PickSeg.all | apply PickSeg.there | apply PickSeg.seg)) ?_ | exact Sub.seg0 (by repeat (first | exact PickSeg.here | exact PickSeg.all | apply PickSeg.there | apply PickSeg.seg)) | apply Sub.assoc))) ?_
        refine kt_d rfl rfl rfl (v_mv) ?_
        refine kt_d rfl rfl rfl (v_mv) ?_
        refine kt_d rfl rfl rfl (v_ia ej13 nj13 Try.runUnderlying27 Try.sizeOf81) ?_
        refine kt_d rfl rfl rfl (v_lda (e := [_, _, _]) nj13 Try.isAgg81 Try.sizeOf81) ?_
        refine kt_d rfl rfl rfl (v_mv) ?_
        refine kt_d rfl rfl rfl (v_mv) ?_
        refine kt_d rfl rfl rfl (v_ia ej14 nj14 Try.runUnderlying27 Try.sizeOf81) ?_
        refine kt_d rfl rfl rfl (v_lda (e := [_, _, _]) nj14 Try.isAgg81 Try.sizeOf81) ?_
        refine kt_one ?_
        refine kl_k rfl rfl (n_call Try.call105 (w_laws_eqAirway hv15) ?_)
        rintro _ _ ⟨rfl, rfl⟩
        refine ⟨.inl (by (repeat (first | exact Sub.refl _ | exact Sub.nil _ | refine Sub.chunk (by repeat (first | exact Pick.here | apply Pick.there | apply Pick.seg)) (by rfl) ?_ | refine Sub.seg (by repeat (first | exact PickSeg.here | exact PickSeg.all | apply PickSeg.there | apply PickSeg.seg)) ?_ | exact Sub.seg0 (by repeat (first | exact PickSeg.here | exact PickSeg.all | apply PickSeg.there | apply PickSeg.seg)) | apply Sub.assoc))), ?_⟩
        refine kt_d rfl rfl rfl (v_not) ?_
        refine kt_nil ?_
        refine kn_then ?_
        refine kwp_cond rfl (fun hc18 => ?_) (fun hc18 => ?_)
        ·
          replace h9 := e_t h9 hc18
          refine kwp_seq ?_
          refine kwp_region ?_
          refine kd (v_as) ?_
          refine kops_nil ?_
          refine kn_then ?_
          refine kwp_ret ?_
          refine kr_block ?_
          refine kr_then ?_
          refine kr_then ?_
          obtain rfl := e_some h9
          refine k_out ?_ rfl
          rintro rfl
          refine kr_block ?_
          refine kr_then ?_
          refine kr_then ?_
          obtain rfl := e_some g5
          refine r1 [] ?_
          exact ⟨rfl, rfl⟩
        ·
          replace h9 := e_f h9 hc18
          refine kwp_skip ?_
          refine kn_block ?_
          refine kn_then ?_
          refine kwp_region ?_
          refine kd (v_mv) ?_
          refine kd (v_add) ?_
          refine kd (v_as) ?_
          refine kops_nil ?_
          refine kn_then ?_
          obtain rfl := e_some h9
          exact ⟨_, (), rfl, hd_mk trivial⟩
      ·
        replace h9 := e_f h9 hc12
        refine kwp_exit ?_
        refine ke_then ?_
        obtain rfl := e_some h9
        refine k_out ?_ rfl
        rintro rfl
        refine ke_block ?_
        exact ⟨_, (), rfl, hd_mk trivial⟩
    · intro z19 y20 _ h21
      refine kn_then ?_
      refine kwp_seq ?_
      refine kwp_region ?_
      refine kd (v_as) ?_
      refine kops_nil ?_
      refine kn_then ?_
      refine kwp_ret ?_
      obtain rfl := e_some h21
      refine r1 [] ?_
      exact ⟨rfl, rfl⟩

set_option maxRecDepth 20000 in
theorem w_laws_eqMine (a01a : Option Addr) (a01n : Nat) (a01c : Nat) (b01a : Option Addr) (b01n : Nat) (b01c : Nat) {a0 : Mine} {b0 : Mine} {r : Bool} (h : p_laws_eqMine a0 b0 = some r) :
    Triple Try.prog 17 [.agg #[.int .i64 a0.p, .slice a01a a01n a01c], .agg #[.int .i64 b0.p, .slice b01a b01n b01c]] [⟨.slice a01a a01n a01c, 3, a0.aw.map encAirway⟩, ⟨.slice b01a b01n b01c, 3, b0.aw.map encAirway⟩] [] (fun v ch => v = .bool r ∧ ch = []) := by
  refine triple_start 16 Try.func17 Try.ntmps17 rfl rfl (fun w0 => ?_)
  refine k_len (c := a01c) (fun hl1 => ?_)
  subst hl1
  refine k_len (c := b01c) (fun hl2 => ?_)
  subst hl2
  unfold p_laws_eqMine at h
  refine kwp_seq ?_
  refine kwp_region ?_
  refine kk (n_box (e := [.int .i64 a0.p, .slice a01a a0.aw.length a01c]) 2 (fun p2_3 => ?_))
  refine kk (n_box (e := [.int .i64 b0.p, .slice b01a b0.aw.length b01c]) 2 (fun p3_4 => ?_))
  refine kd (v_as) ?_
  refine kops_nil ?_
  refine kn_then ?_
  refine kwp_seq ?_
  refine kwp_seq ?_
  refine kwp_region ?_
  refine kd (v_fb fa_29_0) ?_
  refine kd (v_ldb Try.isAgg3) ?_
  refine kd (v_fb fa_29_0) ?_
  refine kd (v_ldb Try.isAgg3) ?_
  refine kd (v_cmp) ?_
  refine kops_nil ?_
  refine kn_then ?_
  refine kwp_cond rfl (fun hc5 => ?_) (fun hc5 => ?_)
  ·
    replace h := e_t h hc5
    refine kwp_seq ?_
    refine kwp_region ?_
    refine kd (v_as) ?_
    refine kops_nil ?_
    refine kn_then ?_
    refine kwp_ret ?_
    refine kr_then ?_
    obtain rfl := e_some h
    refine r1 [] ?_
    exact ⟨rfl, rfl⟩
  ·
    replace h := e_f h hc5
    refine kwp_skip ?_
    refine kn_then ?_
    refine kwp_seq ?_
    refine kwp_seq ?_
    refine kwp_region ?_
    refine kd (v_fb fa_29_1) ?_
    refine kd (v_ldb Try.isAgg27) ?_
    refine kd (v_fb fa_29_1) ?_
    refine kd (v_ldb Try.isAgg27) ?_
    obtain ⟨v7, hv6, h⟩ := e_bind h
    refine kk (n_call Try.call60 (w_laws_eqAirwayS a01a a0.aw.length a01c b01a b0.aw.length b01c hv6) ?_)
    rintro _ _ ⟨rfl, rfl⟩
    refine kd (v_not) ?_
    refine kops_nil ?_
    refine kn_then ?_
    refine kwp_cond rfl (fun hc9 => ?_) (fun hc9 => ?_)
    ·
      replace h := e_t h hc9
      refine kwp_seq ?_
      refine kwp_region ?_
      refine kd (v_as) ?_
      refine kops_nil ?_
      refine kn_then ?_
      refine kwp_ret ?_
      refine kr_then ?_
      obtain rfl := e_some h
      refine r1 [] ?_
      exact ⟨rfl, rfl⟩
    ·
      replace h := e_f h hc9
      refine kwp_skip ?_
      refine kn_then ?_
      refine kwp_seq ?_
      refine kwp_region ?_
      refine kd (v_as) ?_
      refine kops_nil ?_
      refine kn_then ?_
      refine kwp_ret ?_
      obtain rfl := e_some h
      refine r1 [] ?_
      exact ⟨rfl, rfl⟩

set_option maxRecDepth 20000 in
theorem w_laws_markAirwayS (a0a : Option Addr) (a0n : Nat) (a0c : Nat) {a0 : List Airway} {k0 : Int} {r : Int × List Airway} (h : p_laws_markAirwayS a0 k0 = some r) :
    Triple Try.prog 82 [.slice a0a a0n a0c, .int .i64 k0] [] [⟨.slice a0a a0n a0c, 3, a0.map encAirway⟩] (fun v ch => v = .int .i64 r.1 ∧ ch = [⟨.slice a0a a0n a0c, 3, r.2.map encAirway⟩]) := by
  refine triple_start 34 Try.func82 Try.ntmps82 rfl rfl (fun w0 => ?_)
  refine k_len (c := a0c) (fun hl1 => ?_)
  subst hl1
  unfold p_laws_markAirwayS at h
  refine kwp_seq ?_
  refine kwp_region ?_
  refine kd (v_as) ?_
  refine kops_nil ?_
  refine kn_then ?_
  refine kwp_seq ?_
  refine kwp_seq ?_
  refine kwp_region ?_
  refine kd (v_as) ?_
  refine kops_nil ?_
  refine kn_then ?_
  refine kwp_cutE (inv := []) (fun (z : Int × List Airway) (y : Unit) => [(1, .int .i64 z.1)]) (fun (z : Int × List Airway) (y : Unit) => [⟨.slice a0a (a0.length) a0c, 3, z.2.map encAirway⟩]) (fun _ _ => True) h ?_ ?_
  · intro t6 h4
    refine kwp_block ?_
    refine kwp_loopE (inv := [(0, .slice a0a a0.length a0c)]) (fun (z : Int × Int × List Airway) (y : Unit) => [(1, .int .i64 z.1), (5, .int .i64 z.2.1)]) (fun (z : Int × Int × List Airway) (y : Unit) => [⟨.slice a0a (a0.length) a0c, 3, z.2.2.map encAirway⟩]) (fun _ _ => True) h4 ⟨(), hd_mk trivial⟩ ?_
    intro z12 y13 b10 _ h11
    obtain ⟨k7, i8, l9⟩ := z12
    unfold p_laws_markAirwayS_L0 at h11
    refine kwp_seq ?_
    refine kwp_seq ?_
    refine kwp_region ?_
    refine kd (v_mv) ?_
    refine kd (v_mv) ?_
    refine kd (v_len Try.runUnderlying27) ?_
    refine kd (v_cmp) ?_
    refine kops_nil ?_
    refine kn_then ?_
    refine kwp_cond rfl (fun hc14 => ?_) (fun hc14 => ?_)
    ·
      replace h11 := e_t h11 hc14
      refine kwp_skip ?_
      refine kn_then ?_
      refine kwp_seq ?_
      refine kwp_block ?_
      refine kwp_seq ?_
      refine kwp_region ?_
      refine kd (v_mv) ?_
      refine kd (v_mv) ?_
      refine kd (v_mv) ?_
      obtain ⟨j15, ej15, nj15, h11⟩ := e_idx h11
      refine kd (v_ia ej15 nj15 Try.runUnderlying27 Try.sizeOf81) ?_
      refine kd (v_fa nj15 fa_81_0) ?_
      refine kk (s_f { gx l9 j15 with f := k7 } nj15 Try.sizeOf3 ?_)
      refine kops_nil ?_
      refine kn_then ?_
      refine kwp_seq ?_
      refine kwp_region ?_
      refine kd (v_mv) ?_
      refine kd (v_add) ?_
      refine kd (v_as) ?_
      refine kops_nil ?_
      refine kn_then ?_
      refine kwp_seq ?_
      refine kwp_region ?_
      refine kd (v_mv) ?_
      refine kd (v_mv) ?_
      refine kd (v_mv) ?_
      refine kd (v_ia ej15 nj15 Try.runUnderlying27 Try.sizeOf81) ?_
      refine kd (v_fa nj15 fa_81_1) ?_
      refine kk (s_f { gx (l9.set j15 { gx l9 j15 with f := k7 }) j15 with t := w64 (k7 + 1) } nj15 Try.sizeOf3 ?_)
      refine kops_nil ?_
      refine kn_then ?_
      refine kwp_seq ?_
      refine kwp_region ?_
      refine kd (v_mv) ?_
      refine kd (v_add) ?_
      refine kd (v_as) ?_
      refine kops_nil ?_
      refine kn_then ?_
      refine kwp_seq ?_
      refine kwp_region ?_
      refine kd (v_mv) ?_
      refine kd (v_mv) ?_
      refine kd (v_mv) ?_
      refine kd (v_ia ej15 nj15 Try.runUnderlying27 Try.sizeOf81) ?_
      refine kd (v_fa nj15 fa_81_2) ?_
      refine kk (s_f { gx ((l9.set j15 { gx l9 j15 with f := k7 }).set j15 { gx (l9.set j15 { gx l9 j15 with f := k7 }) j15 with t := w64 (k7 + 1) }) j15 with w := w64 ((w64 (k7 + 1)) + 1) } nj15 Try.sizeOf3 ?_)
      refine kops_nil ?_
      refine kn_then ?_
      refine kwp_region ?_
      refine kd (v_mv) ?_
      refine kd (v_add) ?_
      refine kd (v_as) ?_
      refine kops_nil ?_
      refine kn_block ?_
      refine kn_then ?_
      refine kwp_region ?_
      refine kd (v_mv) ?_
      refine kd (v_add) ?_
      refine kd (v_as) ?_
      refine kops_nil ?_
      refine kn_then ?_
      obtain rfl := e_some h11
      exact ⟨_, (), rfl, hd_mk trivial⟩
    ·
      replace h11 := e_f h11 hc14
      refine kwp_exit ?_
      refine ke_then ?_
      obtain rfl := e_some h11
      refine k_out ?_ rfl
      rintro rfl
      refine ke_block ?_
      exact ⟨(), hd_mk trivial⟩
  · intro z16 y17 _ h18
    obtain ⟨k2, l3⟩ := z16
    refine kn_then ?_
    refine kwp_seq ?_
    refine kwp_region ?_
    refine kd (v_mv) ?_
    refine kd (v_as) ?_
    refine kops_nil ?_
    refine kn_then ?_
    refine kwp_ret ?_
    obtain rfl := e_some h18
    refine r1 [⟨.slice a0a (a0.length) a0c, 3, l3.map encAirway⟩] ?_
    exact ⟨rfl, rfl⟩

set_option maxRecDepth 20000 in
theorem w_laws_markMine (a01a : Option Addr) (a01n : Nat) (a01c : Nat) {a0 : Mine} {k0 : Int} {r : Int × List Airway} (h : p_laws_markMine a0 k0 = some r) :
    Triple Try.prog 35 [.agg #[.int .i64 a0.p, .slice a01a a01n a01c], .int .i64 k0] [] [⟨.slice a01a a01n a01c, 3, a0.aw.map encAirway⟩] (fun v ch => v = .int .i64 r.1 ∧ ch = [⟨.slice a01a a01n a01c, 3, r.2.map encAirway⟩]) := by
  refine triple_start 10 Try.func35 Try.ntmps35 rfl rfl (fun w0 => ?_)
  refine k_len (c := a01c) (fun hl1 => ?_)
  subst hl1
  unfold p_laws_markMine at h
  refine kwp_seq ?_
  refine kwp_region ?_
  refine kk (n_box (e := [.int .i64 a0.p, .slice a01a a0.aw.length a01c]) 2 (fun p2_2 => ?_))
  refine kd (v_as) ?_
  refine kops_nil ?_
  refine kn_then ?_
  refine kwp_seq ?_
  refine kwp_region ?_
  refine kd (v_fb fa_29_1) ?_
  refine kd (v_ldb Try.isAgg27) ?_
  refine kd (v_mv) ?_
  obtain ⟨⟨v4, v5⟩, hv3, h⟩ := e_bind h
  refine kk (n_call Try.call82 (w_laws_markAirwayS a01a a0.aw.length a01c hv3) ?_)
  rintro _ _ ⟨rfl, rfl⟩
  refine kd (v_as) ?_
  refine kops_nil ?_
  refine kn_then ?_
  refine kwp_seq ?_
  refine kwp_region ?_
  refine kd (v_mv) ?_
  refine kd (v_as) ?_
  refine kops_nil ?_
  refine kn_then ?_
  refine kwp_ret ?_
  obtain rfl := e_some h
  refine r1 [⟨.slice a01a (a0.aw.length) a01c, 3, v5.map encAirway⟩] ?_
  exact ⟨rfl, rfl⟩

end Go.Proofs.Ytkedammjdldloaa
