/- What the plain programs return, the functions of the program return; no condition. -/
import Derived.Test.YtnibfmofkamjoaaDoorZQ
import Derived.Test.YtnibfmofkamjoaaDoorZFa
import Derived.Test.YtnibfmofkamjoaaDoorZVbq
namespace Go.Proofs.YtnibfmofkamjoaaDoor
open Go
set_option linter.unusedVariables false
set_option linter.unusedSimpArgs false

set_option maxRecDepth 20000 in
theorem w_slices_Index_int_int (s0a : Option Addr) (s0n : Nat) (s0c : Nat) {s0 : List Int} {v0 : Int} {r : Int} (h : p_slices_Index_int_int s0 v0 = some r) :
    Triple Tryd.prog 123 [.slice s0a s0n s0c, .int .i64 v0] [⟨.slice s0a s0n s0c, 1, s0.map encI⟩] [] (fun v ch => v = .int .i64 r ∧ ch = []) := by
  refine triple_start 19 Tryd.func123 Tryd.ntmps123 rfl rfl (fun w0 => ?_)
  refine k_len (c := s0c) (fun hl1 => ?_)
  subst hl1
  unfold p_slices_Index_int_int at h
  refine kwp_seq ?_
  refine kwp_region ?_
  refine kd (v_as) ?_
  refine kops_nil ?_
  refine kn_then ?_
  refine kwp_seq ?_
  refine kwp_seq ?_
  refine kwp_region ?_
  refine kd (v_mv) ?_
  refine kd (v_len Tryd.runUnderlying26) ?_
  refine kd (v_mv) ?_
  refine kops_nil ?_
  refine kn_then ?_
  refine kwp_cutO (inv := []) (fun (z : Unit) (y : Unit) => []) (fun (z : Unit) (y : Unit) => []) (fun _ _ => True) h ?_ ?_
  · intro t4 h2 g3
    refine kwp_block ?_
    refine kwp_loopE (inv := [(0, .slice s0a s0.length s0c), (1, .int .i64 v0), (7, .int .i64 ((s0.length : Nat) : Int))]) (fun (z : Int) (y : Unit) => [(8, .int .i64 z)]) (fun (z : Int) (y : Unit) => []) (fun _ _ => True) h2 ⟨(), hd_mk trivial⟩ ?_
    intro x5 y9 b6 _ h7
    unfold p_slices_Index_int_int_L0 at h7
    refine kwp_seq ?_
    refine kwp_region ?_
    refine kd (v_cmp) ?_
    refine kops_nil ?_
    refine kn_then ?_
    refine kwp_seq ?_
    refine kwp_cond rfl (fun hc10 => ?_) (fun hc10 => ?_)
    ·
      replace h7 := e_t h7 hc10
      refine kwp_skip ?_
      refine kn_then ?_
      refine kwp_seq ?_
      refine kwp_block ?_
      refine kwp_seq ?_
      refine kwp_region ?_
      refine kd (v_mv) ?_
      refine kd (v_as) ?_
      refine kops_nil ?_
      refine kn_then ?_
      refine kwp_seq ?_
      refine kwp_region ?_
      refine kd (v_mv) ?_
      refine kd (v_mv) ?_
      refine kd (v_mv) ?_
      obtain ⟨j11, ej11, nj11, h7⟩ := e_idx h7
      refine kd (v_ia ej11 nj11 Tryd.runUnderlying26 Tryd.sizeOf3) ?_
      refine kd (v_ldf nj11 Tryd.isAgg3) ?_
      refine kd (v_cmp) ?_
      refine kops_nil ?_
      refine kn_then ?_
      refine kwp_cond rfl (fun hc12 => ?_) (fun hc12 => ?_)
      ·
        replace h7 := e_t h7 hc12
        refine kwp_seq ?_
        refine kwp_region ?_
        refine kd (v_mv) ?_
        refine kd (v_as) ?_
        refine kops_nil ?_
        refine kn_then ?_
        refine kwp_ret ?_
        refine kr_block ?_
        refine kr_then ?_
        refine kr_then ?_
        obtain rfl := e_some h7
        refine k_out ?_ rfl
        rintro rfl
        refine kr_block ?_
        refine kr_then ?_
        refine kr_then ?_
        obtain rfl := e_some g3
        refine r1 [] ?_
        exact ⟨rfl, rfl⟩
      ·
        replace h7 := e_f h7 hc12
        refine kwp_skip ?_
        refine kn_block ?_
        refine kn_then ?_
        refine kwp_region ?_
        refine kd (v_add) ?_
        refine kd (v_mv) ?_
        refine kops_nil ?_
        refine kn_then ?_
        obtain rfl := e_some h7
        exact ⟨_, (), rfl, hd_mk trivial⟩
    ·
      replace h7 := e_f h7 hc10
      refine kwp_exit ?_
      refine ke_then ?_
      obtain rfl := e_some h7
      refine k_out ?_ rfl
      rintro rfl
      refine ke_block ?_
      exact ⟨_, (), rfl, hd_mk trivial⟩
  · intro z13 y14 _ h15
    refine kn_then ?_
    refine kwp_seq ?_
    refine kwp_region ?_
    refine kd (v_as) ?_
    refine kops_nil ?_
    refine kn_then ?_
    refine kwp_ret ?_
    obtain rfl := e_some h15
    refine r1 [] ?_
    exact ⟨rfl, rfl⟩

set_option maxRecDepth 20000 in
theorem w_slices_Contains_int_int (s0a : Option Addr) (s0n : Nat) (s0c : Nat) {s0 : List Int} {v0 : Int} {r : Bool} (h : p_slices_Contains_int_int s0 v0 = some r) :
    Triple Tryd.prog 101 [.slice s0a s0n s0c, .int .i64 v0] [⟨.slice s0a s0n s0c, 1, s0.map encI⟩] [] (fun v ch => v = .bool r ∧ ch = []) := by
  refine triple_start 9 Tryd.func101 Tryd.ntmps101 rfl rfl (fun w0 => ?_)
  refine k_len (c := s0c) (fun hl1 => ?_)
  subst hl1
  unfold p_slices_Contains_int_int at h
  refine kwp_seq ?_
  refine kwp_region ?_
  refine kd (v_as) ?_
  refine kops_nil ?_
  refine kn_then ?_
  refine kwp_seq ?_
  refine kwp_region ?_
  refine kd (v_mv) ?_
  refine kd (v_mv) ?_
  obtain ⟨v3, hv2, h⟩ := e_bind h
  refine kk (n_call Tryd.call123 (w_slices_Index_int_int s0a s0.length s0c hv2) ?_)
  rintro _ _ ⟨rfl, rfl⟩
  refine kd (v_cmp) ?_
  refine kd (v_as) ?_
  refine kops_nil ?_
  refine kn_then ?_
  refine kwp_ret ?_
  obtain rfl := e_some h
  refine r1 [] ?_
  exact ⟨rfl, rfl⟩

set_option maxRecDepth 20000 in
theorem w_impl_LoopSteps (s01a : Option Addr) (s01n : Nat) (s01c : Nat) {s0 : Survey} {index0 : Int} {r : List Step × Bool} (h : p_impl_LoopSteps s0 index0 = some r) :
    Triple Tryd.prog 55 [.agg #[.int .i64 s0.st, .slice s01a s01n s01c], .int .i64 index0] [⟨.slice s01a s01n s01c, 5, s0.legs.map encLeg⟩] [] (fun v ch => ∃ (w0a : Option Addr) (w0c : Nat), v = .tuple #[.slice w0a r.1.length w0c, .bool r.2] ∧ ch = [⟨.slice w0a r.1.length w0c, 2, r.1.map encStep⟩]) := by
  refine triple_start 49 Tryd.func55 Tryd.ntmps55 rfl rfl (fun w0 => ?_)
  refine k_len (c := s01c) (fun hl1 => ?_)
  subst hl1
  unfold p_impl_LoopSteps at h
  refine kwp_seq ?_
  refine kwp_region ?_
  refine kk (n_box (e := [.int .i64 s0.st, .slice s01a s0.legs.length s01c]) 2 (fun p2_2 => ?_))
  refine kops_nilchunk 2 (by decide) ?_
  refine kd (v_as) ?_
  refine kd (v_as) ?_
  refine kops_nil ?_
  refine kn_then ?_
  refine kwp_seq ?_
  refine kwp_seq ?_
  refine kwp_cutE (inv := [(1, .int .i64 index0), (2, .pointer (some p2_2))]) (fun (z : Bool) (y : Unit) => [(26, .bool z)]) (fun (z : Bool) (y : Unit) => [⟨.pointer (some p2_2), 2, [[.int .i64 s0.st, .slice s01a s0.legs.length s01c]]⟩]) (fun _ _ => True) h ?_ ?_
  · intro t6 h4
    refine kwp_region ?_
    refine kd (v_ldB Tryd.isAgg25 Tryd.sizeOf25) ?_
    obtain ⟨v8, hv7, h4⟩ := e_bind h4
    refine kk (n_call Tryd.call29 (w_impl_SurveyValid s01a s0.legs.length s01c hv7) ?_)
    rintro _ _ ⟨rfl, rfl⟩
    refine kd (v_not) ?_
    refine kd (v_mv) ?_
    refine kops_split 13 rfl (fun hb10 => ?_) (fun hb10 => ?_)
    ·
      replace h4 := e_t h4 hb10
      refine kskip hb10 ?_
      refine kskip hb10 ?_
      refine kskip hb10 ?_
      refine kskip hb10 ?_
      refine kskip hb10 ?_
      refine kskip hb10 ?_
      refine kd (v_pt hb10) ?_
      refine kd (v_mv) ?_
      refine kskip rfl ?_
      refine kskip rfl ?_
      refine kskip rfl ?_
      refine kskip rfl ?_
      refine kd (v_pt rfl) ?_
      refine kops_nil ?_
      refine kn_then ?_
      obtain rfl := e_some h4
      exact ⟨(), hd_mk trivial⟩
    ·
      replace h4 := e_f h4 hb10
      refine kgd hb10 (v_mv) ?_
      refine kgd hb10 (v_fb fa_25_1) ?_
      refine kgd hb10 (v_ldb Tryd.isAgg23) ?_
      refine kgd hb10 (v_len Tryd.runUnderlying23) ?_
      obtain ⟨v12, hv11, h4⟩ := e_bind h4
      refine kgk hb10 (n_call Tryd.call75 (w_impl_isIndex hv11) ?_)
      rintro _ _ ⟨rfl, rfl⟩
      refine kgd hb10 (v_not) ?_
      refine kd (v_pf hb10) ?_
      refine kd (v_mv) ?_
      refine kops_split 21 rfl (fun hb14 => ?_) (fun hb14 => ?_)
      ·
        replace h4 := e_t h4 hb14
        refine kskip hb14 ?_
        refine kskip hb14 ?_
        refine kskip hb14 ?_
        refine kskip hb14 ?_
        refine kd (v_pt hb14) ?_
        refine kops_nil ?_
        refine kn_then ?_
        obtain rfl := e_some h4
        exact ⟨(), hd_mk trivial⟩
      ·
        replace h4 := e_f h4 hb14
        refine kgd hb14 (v_ldB Tryd.isAgg25 Tryd.sizeOf25) ?_
        obtain ⟨v16, hv15, h4⟩ := e_bind h4
        refine kgk hb14 (n_call Tryd.call49 (w_impl_TreeLegs s01a s0.legs.length s01c hv15) ?_)
        rintro _ _ ⟨q17a, q17c, rfl, rfl⟩
        refine kgd hb14 (v_mv) ?_
        obtain ⟨v19, hv18, h4⟩ := e_bind h4
        refine kgk hb14 (n_call Tryd.call101 (w_slices_Contains_int_int q17a v16.length q17c hv18) ?_)
        rintro _ _ ⟨rfl, rfl⟩
        refine kd (v_pf hb14) ?_
        refine kops_nil ?_
        refine kn_then ?_
        obtain rfl := e_some h4
        exact ⟨(), hd_mk trivial⟩
  · intro x3 y22 _ h23
    refine kn_then ?_
    refine kwp_cond rfl (fun hc24 => ?_) (fun hc24 => ?_)
    ·
      replace h23 := e_t h23 hc24
      refine kwp_seq ?_
      refine kwp_region ?_
      refine kops_nilchunk 2 (by decide) ?_
      refine kd (v_as) ?_
      refine kd (v_as) ?_
      refine kops_nil ?_
      refine kn_then ?_
      refine kwp_ret ?_
      refine kr_then ?_
      obtain rfl := e_some h23
      refine r2 [⟨.slice none 0 0, 2, ([] : List Step).map encStep⟩] ?_
      exact ⟨none, 0, rfl, rfl⟩
    ·
      replace h23 := e_f h23 hc24
      refine kwp_skip ?_
      refine kn_then ?_
      refine kwp_seq ?_
      refine kwp_region ?_
      refine kd (v_fb fa_25_1) ?_
      refine kd (v_ldb Tryd.isAgg23) ?_
      refine kd (v_mv) ?_
      obtain ⟨j25, ej25, nj25, h23⟩ := e_idx h23
      refine kd (v_ia ej25 nj25 Tryd.runUnderlying23 Tryd.sizeOf48) ?_
      refine kd (v_lda (e := [_, _, _, _, _]) nj25 Tryd.isAgg48 Tryd.sizeOf48) ?_
      refine kk (n_alloc (e := [.int .i64 0, .int .i64 0, .int .i64 0, .int .i64 0, .int .i64 0]) 5 Tryd.zeroValue48 (fun p6_26 => ?_))
      refine kk (s_B (e' := [.int .i64 ((gx s0.legs j25).f), .int .i64 ((gx s0.legs j25).t), .int .i64 ((gx s0.legs j25).e), .int .i64 ((gx s0.legs j25).n), .int .i64 ((gx s0.legs j25).u)]) Tryd.sizeOf48 ?_)
      refine kops_nil ?_
      refine kn_then ?_
      refine kwp_seq ?_
      refine kwp_region ?_
      refine kd (v_ldB Tryd.isAgg25 Tryd.sizeOf25) ?_
      refine kd (v_fb fa_48_1) ?_
      refine kd (v_ldb Tryd.isAgg3) ?_
      refine kd (v_fb fa_48_0) ?_
      refine kd (v_ldb Tryd.isAgg3) ?_
      obtain ⟨⟨v28, v29⟩, hv27, h23⟩ := e_bind h23
      refine kk (n_call Tryd.call102 (w_impl_TreeWay s01a s0.legs.length s01c hv27) ?_)
      rintro _ _ ⟨q30a, q30c, rfl, rfl⟩
      refine kd (v_mv) ?_
      refine kd (v_ex) ?_
      refine kd (v_ex) ?_
      refine kd (v_as) ?_
      refine kd (v_as) ?_
      refine kops_nil ?_
      refine kn_then ?_
      refine kwp_seq ?_
      refine kwp_seq ?_
      refine kwp_region ?_
      refine kd (v_mv) ?_
      refine kd (v_not) ?_
      refine kops_nil ?_
      refine kn_then ?_
      refine kwp_cond rfl (fun hc32 => ?_) (fun hc32 => ?_)
      ·
        replace h23 := e_t h23 hc32
        refine kwp_seq ?_
        refine kwp_region ?_
        refine kops_nilchunk 2 (by decide) ?_
        refine kd (v_as) ?_
        refine kd (v_as) ?_
        refine kops_nil ?_
        refine kn_then ?_
        refine kwp_ret ?_
        refine kr_then ?_
        obtain rfl := e_some h23
        refine r2 [⟨.slice none 0 0, 2, ([] : List Step).map encStep⟩] ?_
        exact ⟨none, 0, rfl, rfl⟩
      ·
        replace h23 := e_f h23 hc32
        refine kwp_skip ?_
        refine kn_then ?_
        refine kwp_seq ?_
        refine kwp_region ?_
        refine kd (v_mv) ?_
        refine kd (v_bd [(0, _)] [_, .bool false] Tryd.zeroValue68 Tryd.runUnderlying68 pl_68) ?_
        refine kk (n_lit (enc := encStep) [_] ([(⟨index0, false⟩ : Step)] : List Step) Tryd.runUnderlying64 Tryd.sizeOf68 Tryd.zeroValue68 (fun a33 => ?_))
        refine kd (v_as) ?_
        refine kops_nil ?_
        refine kn_then ?_
        refine kwp_seq ?_
        refine kwp_region ?_
        refine kd (v_mv) ?_
        refine kd (v_mv) ?_
        obtain ⟨hz34, h23⟩ := e_need h23
        refine kk (n_app (enc := encStep) ok_encStep hz34 Tryd.underlying64 Tryd.type68 (by decide) (fun a35 c36 => ?_))
        refine kd (v_as) ?_
        refine kd (v_as) ?_
        refine kops_nil ?_
        refine kn_then ?_
        refine kwp_ret ?_
        obtain rfl := e_some h23
        refine r2 [⟨.slice a35 ((([(⟨index0, false⟩ : Step)] : List Step) ++ v28).length) c36, 2, (([(⟨index0, false⟩ : Step)] : List Step) ++ v28).map encStep⟩] ?_
        exact ⟨a35, c36, rfl, rfl⟩

set_option maxRecDepth 20000 in
theorem w_impl_Misclosure (s01a : Option Addr) (s01n : Nat) (s01c : Nat) {s0 : Survey} {index0 : Int} {r : Way × Bool} (h : p_impl_Misclosure s0 index0 = some r) :
    Triple Tryd.prog 56 [.agg #[.int .i64 s0.st, .slice s01a s01n s01c], .int .i64 index0] [⟨.slice s01a s01n s01c, 5, s0.legs.map encLeg⟩] [] (fun v ch => v = .tuple #[.agg #[.int .i64 r.1.e, .int .i64 r.1.n, .int .i64 r.1.u], .bool r.2] ∧ ch = []) := by
  refine triple_start 49 Tryd.func56 Tryd.ntmps56 rfl rfl (fun w0 => ?_)
  refine k_len (c := s01c) (fun hl1 => ?_)
  subst hl1
  unfold p_impl_Misclosure at h
  refine kwp_seq ?_
  refine kwp_region ?_
  refine kk (n_box (e := [.int .i64 s0.st, .slice s01a s0.legs.length s01c]) 2 (fun p2_2 => ?_))
  refine kk (n_alloc (e := [.int .i64 0, .int .i64 0, .int .i64 0]) 3 Tryd.zeroValue37 (fun p4_3 => ?_))
  refine kd (v_as) ?_
  refine kops_nil ?_
  refine kn_then ?_
  refine kwp_seq ?_
  refine kwp_seq ?_
  refine kwp_cutE (inv := [(1, .int .i64 index0), (2, .pointer (some p2_2)), (4, .pointer (some p4_3))]) (fun (z : Bool) (y : Unit) => [(21, .bool z)]) (fun (z : Bool) (y : Unit) => [⟨.pointer (some p2_2), 2, [[.int .i64 s0.st, .slice s01a s0.legs.length s01c]]⟩, ⟨.pointer (some p4_3), 3, [[.int .i64 0, .int .i64 0, .int .i64 0]]⟩]) (fun _ _ => True) h ?_ ?_
  · intro t7 h5
    refine kwp_region ?_
    refine kd (v_ldB Tryd.isAgg25 Tryd.sizeOf25) ?_
    obtain ⟨v9, hv8, h5⟩ := e_bind h5
    refine kk (n_call Tryd.call29 (w_impl_SurveyValid s01a s0.legs.length s01c hv8) ?_)
    rintro _ _ ⟨rfl, rfl⟩
    refine kd (v_not) ?_
    refine kd (v_mv) ?_
    refine kops_split 14 rfl (fun hb11 => ?_) (fun hb11 => ?_)
    ·
      replace h5 := e_t h5 hb11
      refine kskip hb11 ?_
      refine kskip hb11 ?_
      refine kskip hb11 ?_
      refine kskip hb11 ?_
      refine kskip hb11 ?_
      refine kskip hb11 ?_
      refine kd (v_pt hb11) ?_
      refine kops_nil ?_
      refine kn_then ?_
      obtain rfl := e_some h5
      exact ⟨(), hd_mk trivial⟩
    ·
      replace h5 := e_f h5 hb11
      refine kgd hb11 (v_mv) ?_
      refine kgd hb11 (v_fb fa_25_1) ?_
      refine kgd hb11 (v_ldb Tryd.isAgg23) ?_
      refine kgd hb11 (v_len Tryd.runUnderlying23) ?_
      obtain ⟨v13, hv12, h5⟩ := e_bind h5
      refine kgk hb11 (n_call Tryd.call75 (w_impl_isIndex hv12) ?_)
      rintro _ _ ⟨rfl, rfl⟩
      refine kgd hb11 (v_not) ?_
      refine kd (v_pf hb11) ?_
      refine kops_nil ?_
      refine kn_then ?_
      obtain rfl := e_some h5
      exact ⟨(), hd_mk trivial⟩
  · intro x4 y16 _ h17
    refine kn_then ?_
    refine kwp_cond rfl (fun hc18 => ?_) (fun hc18 => ?_)
    ·
      replace h17 := e_t h17 hc18
      refine kwp_seq ?_
      refine kwp_region ?_
      refine kd (v_bd [] [.int .i64 0, .int .i64 0, .int .i64 0] Tryd.zeroValue37 Tryd.runUnderlying37 pl_37) ?_
      refine kk (s_B (e' := [.int .i64 0, .int .i64 0, .int .i64 0]) Tryd.sizeOf37 ?_)
      refine kd (v_as) ?_
      refine kops_nil ?_
      refine kn_then ?_
      refine kwp_ret ?_
      refine kr_then ?_
      obtain rfl := e_some h17
      refine rc1 Tryd.isAgg37 Tryd.sizeOf37 [] ?_
      exact ⟨rfl, rfl⟩
    ·
      replace h17 := e_f h17 hc18
      refine kwp_skip ?_
      refine kn_then ?_
      refine kwp_seq ?_
      refine kwp_region ?_
      refine kd (v_fb fa_25_1) ?_
      refine kd (v_ldb Tryd.isAgg23) ?_
      refine kd (v_mv) ?_
      obtain ⟨j19, ej19, nj19, h17⟩ := e_idx h17
      refine kd (v_ia ej19 nj19 Tryd.runUnderlying23 Tryd.sizeOf48) ?_
      refine kd (v_lda (e := [_, _, _, _, _]) nj19 Tryd.isAgg48 Tryd.sizeOf48) ?_
      refine kk (n_alloc (e := [.int .i64 0, .int .i64 0, .int .i64 0, .int .i64 0, .int .i64 0]) 5 Tryd.zeroValue48 (fun p6_20 => ?_))
      refine kk (s_B (e' := [.int .i64 ((gx s0.legs j19).f), .int .i64 ((gx s0.legs j19).t), .int .i64 ((gx s0.legs j19).e), .int .i64 ((gx s0.legs j19).n), .int .i64 ((gx s0.legs j19).u)]) Tryd.sizeOf48 ?_)
      refine kops_nil ?_
      refine kn_then ?_
      refine kwp_seq ?_
      refine kwp_region ?_
      refine kd (v_ldB Tryd.isAgg25 Tryd.sizeOf25) ?_
      refine kd (v_fb fa_48_0) ?_
      refine kd (v_ldb Tryd.isAgg3) ?_
      obtain ⟨⟨v22, v23⟩, hv21, h17⟩ := e_bind h17
      refine kk (n_call Tryd.call72 (w_impl_TreePlace s01a s0.legs.length s01c hv21) ?_)
      rintro _ _ ⟨rfl, rfl⟩
      refine kd (v_mv) ?_
      refine kd (v_ex) ?_
      refine kd (v_ex) ?_
      refine kk (n_alloc (e := [.int .i64 0, .int .i64 0, .int .i64 0]) 3 Tryd.zeroValue37 (fun p7_26 => ?_))
      refine kk (s_B (e' := [.int .i64 v22.e, .int .i64 v22.n, .int .i64 v22.u]) Tryd.sizeOf37 ?_)
      refine kd (v_as) ?_
      refine kops_nil ?_
      refine kn_then ?_
      refine kwp_seq ?_
      refine kwp_region ?_
      refine kd (v_ldB Tryd.isAgg25 Tryd.sizeOf25) ?_
      refine kd (v_fb fa_48_1) ?_
      refine kd (v_ldb Tryd.isAgg3) ?_
      obtain ⟨⟨v28, v29⟩, hv27, h17⟩ := e_bind h17
      refine kk (n_call Tryd.call72 (w_impl_TreePlace s01a s0.legs.length s01c hv27) ?_)
      rintro _ _ ⟨rfl, rfl⟩
      refine kd (v_mv) ?_
      refine kd (v_ex) ?_
      refine kd (v_ex) ?_
      refine kk (n_alloc (e := [.int .i64 0, .int .i64 0, .int .i64 0]) 3 Tryd.zeroValue37 (fun p9_32 => ?_))
      refine kk (s_B (e' := [.int .i64 v28.e, .int .i64 v28.n, .int .i64 v28.u]) Tryd.sizeOf37 ?_)
      refine kd (v_as) ?_
      refine kops_nil ?_
      refine kn_then ?_
      refine kwp_seq ?_
      obtain ⟨v34, hv33, h17⟩ := e_bind h17
      obtain ⟨v37, hv36, h17⟩ := e_bind h17
      obtain ⟨v40, hv39, h17⟩ := e_bind h17
      obtain ⟨v43, hv42, h17⟩ := e_bind h17
      refine kwp_tree (.quiet 0 (.quiet 1 (.quiet 4 (.one 2 (.one 3 (.one 5 (.one 6 (.one 7 (.quiet 8 .stop))))))))) [] [⟨.pointer (some p6_20), 5, [[.int .i64 ((gx s0.legs j19).f), .int .i64 ((gx s0.legs j19).t), .int .i64 ((gx s0.legs j19).e), .int .i64 ((gx s0.legs j19).n), .int .i64 ((gx s0.legs j19).u)]]⟩, ⟨.pointer (some p7_26), 3, [[.int .i64 v22.e, .int .i64 v22.n, .int .i64 v22.u]]⟩, ⟨.pointer (some p9_32), 3, [[.int .i64 v28.e, .int .i64 v28.n, .int .i64 v28.u]]⟩] drawMixed (by kernel_rfl) nopan (by (repeat (first | exact Sub.refl _ | exact Sub.nil _ | refine Sub.chunk (by repeat (first | exact Pick.here | apply Pick.there | apply Pick.seg)) (by rfl) ?_ | refine Sub.seg (by repeat (first | exact PickSeg.here | exact PickSeg.all | apply PickSeg.there | apply PickSeg.seg)) ?_ | exact Sub.seg0 (by repeat (first | exact PickSeg.here | exact PickSeg.all | apply PickSeg.there | apply PickSeg.seg)) | apply Sub.assoc))) ?_
      refine kt_d rfl rfl rfl (v_ldB Tryd.isAgg37 Tryd.sizeOf37) ?_
      refine kt_d rfl rfl rfl (v_ldB Tryd.isAgg48 Tryd.sizeOf48) ?_
      refine kt_d rfl rfl rfl (v_ldB Tryd.isAgg37 Tryd.sizeOf37) ?_
      refine kt_one ?_
      refine kl_k rfl rfl (n_call Tryd.call76 (w_impl_legWay hv33) ?_)
      rintro _ _ ⟨rfl, rfl⟩
      refine ⟨.inl (by (repeat (first | exact Sub.refl _ | exact Sub.nil _ | refine Sub.chunk (by repeat (first | exact Pick.here | apply Pick.there | apply Pick.seg)) (by rfl) ?_ | refine Sub.seg (by repeat (first | exact PickSeg.here | exact PickSeg.all | apply PickSeg.there | apply PickSeg.seg)) ?_ | exact Sub.seg0 (by repeat (first | exact PickSeg.here | exact PickSeg.all | apply PickSeg.there | apply PickSeg.seg)) | apply Sub.assoc))), ?_⟩
      refine kt_one ?_
      refine kl_k rfl rfl (n_call Tryd.call31 (w_impl_WayAdd hv36) ?_)
      rintro _ _ ⟨rfl, rfl⟩
      refine ⟨.inl (by (repeat (first | exact Sub.refl _ | exact Sub.nil _ | refine Sub.chunk (by repeat (first | exact Pick.here | apply Pick.there | apply Pick.seg)) (by rfl) ?_ | refine Sub.seg (by repeat (first | exact PickSeg.here | exact PickSeg.all | apply PickSeg.there | apply PickSeg.seg)) ?_ | exact Sub.seg0 (by repeat (first | exact PickSeg.here | exact PickSeg.all | apply PickSeg.there | apply PickSeg.seg)) | apply Sub.assoc))), ?_⟩
      refine kt_one ?_
      refine kl_k rfl rfl (n_call Tryd.call32 (w_impl_WayTimes hv39) ?_)
      rintro _ _ ⟨rfl, rfl⟩
      refine ⟨.inl (by (repeat (first | exact Sub.refl _ | exact Sub.nil _ | refine Sub.chunk (by repeat (first | exact Pick.here | apply Pick.there | apply Pick.seg)) (by rfl) ?_ | refine Sub.seg (by repeat (first | exact PickSeg.here | exact PickSeg.all | apply PickSeg.there | apply PickSeg.seg)) ?_ | exact Sub.seg0 (by repeat (first | exact PickSeg.here | exact PickSeg.all | apply PickSeg.there | apply PickSeg.seg)) | apply Sub.assoc))), ?_⟩
      refine kt_one ?_
      refine kl_k rfl rfl (n_call Tryd.call31 (w_impl_WayAdd hv42) ?_)
      rintro _ _ ⟨rfl, rfl⟩
      refine ⟨.inl (by (repeat (first | exact Sub.refl _ | exact Sub.nil _ | refine Sub.chunk (by repeat (first | exact Pick.here | apply Pick.there | apply Pick.seg)) (by rfl) ?_ | refine Sub.seg (by repeat (first | exact PickSeg.here | exact PickSeg.all | apply PickSeg.there | apply PickSeg.seg)) ?_ | exact Sub.seg0 (by repeat (first | exact PickSeg.here | exact PickSeg.all | apply PickSeg.there | apply PickSeg.seg)) | apply Sub.assoc))), ?_⟩
      refine kt_one ?_
      refine kl_k rfl rfl (s_B (e' := [.int .i64 v43.e, .int .i64 v43.n, .int .i64 v43.u]) Tryd.sizeOf37 ?_)
      refine ⟨.inl (by (repeat (first | exact Sub.refl _ | exact Sub.nil _ | refine Sub.chunk (by repeat (first | exact Pick.here | apply Pick.there | apply Pick.seg)) (by rfl) ?_ | refine Sub.seg (by repeat (first | exact PickSeg.here | exact PickSeg.all | apply PickSeg.there | apply PickSeg.seg)) ?_ | exact Sub.seg0 (by repeat (first | exact PickSeg.here | exact PickSeg.all | apply PickSeg.there | apply PickSeg.seg)) | apply Sub.assoc))), ?_⟩
      refine kt_d rfl rfl rfl (v_as) ?_
      refine kt_nil ?_
      refine kn_then ?_
      refine kwp_ret ?_
      obtain rfl := e_some h17
      refine rc1 Tryd.isAgg37 Tryd.sizeOf37 [] ?_
      exact ⟨rfl, rfl⟩

end Go.Proofs.YtnibfmofkamjoaaDoor
