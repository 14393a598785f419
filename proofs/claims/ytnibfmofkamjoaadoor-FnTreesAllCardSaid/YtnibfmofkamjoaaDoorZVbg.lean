/- What the plain programs return, the functions of the program return; no condition. -/
import Derived.Test.YtnibfmofkamjoaaDoorZQ
import Derived.Test.YtnibfmofkamjoaaDoorZFa
import Derived.Test.YtnibfmofkamjoaaDoorZVbr
import Derived.Test.YtnibfmofkamjoaaDoorZVbq
namespace Go.Proofs.YtnibfmofkamjoaaDoor
open Go
set_option linter.unusedVariables false
set_option linter.unusedSimpArgs false

set_option maxRecDepth 20000 in
set_option maxHeartbeats 2000000 in
theorem w_spec_l20Leg (r0p : Addr) (r00a : Option Addr) (r00n : Nat) (r00c : Nat) {r0 : Rd} {stations0 : Int} {n0 : Int} {r : Leg × Int} (h : p_spec_l20Leg r0 stations0 n0 = some r) :
    Triple Tryd.prog 113 [.pointer (some r0p), .int .i64 stations0, .int .i64 n0] [⟨.slice r00a r00n r00c, 1, r0.b.map encB⟩] [⟨.pointer (some r0p), 2, [[.slice r00a r00n r00c, .int .i64 r0.p]]⟩] (fun v ch => v = .agg #[.int .i64 r.1.f, .int .i64 r.1.t, .int .i64 r.1.e, .int .i64 r.1.n, .int .i64 r.1.u] ∧ ch = [⟨.pointer (some r0p), 2, [[.slice r00a r00n r00c, .int .i64 r.2]]⟩]) := by
  refine triple_start 65 Tryd.func113 Tryd.ntmps113 rfl rfl (fun w0 => ?_)
  refine k_len (c := r00c) (fun hl1 => ?_)
  subst hl1
  unfold p_spec_l20Leg at h
  refine kwp_seq ?_
  refine kwp_region ?_
  refine kk (n_alloc (e := [.int .i64 0, .int .i64 0, .int .i64 0, .int .i64 0, .int .i64 0]) 5 Tryd.zeroValue48 (fun p6_2 => ?_))
  refine kops_nil ?_
  refine kn_then ?_
  refine kwp_seq ?_
  refine kwp_region ?_
  refine kd (v_mv) ?_
  refine kd (v_mv) ?_
  refine kd (v_max) ?_
  obtain ⟨⟨v4, v5⟩, hv3, h⟩ := e_bind h
  refine kk (n_call Tryd.call70 (w_spec_l20Rd_pick r0p r00a r0.b.length r00c hv3) ?_)
  rintro _ _ ⟨rfl, rfl⟩
  refine kd (v_mv) ?_
  obtain ⟨⟨v8, v9⟩, hv7, h⟩ := e_bind h
  refine kk (n_call Tryd.call70 (w_spec_l20Rd_pick r0p r00a r0.b.length r00c hv7) ?_)
  rintro _ _ ⟨rfl, rfl⟩
  refine kd (v_sub) ?_
  refine kd (v_mv) ?_
  obtain ⟨⟨v12, v13⟩, hv11, h⟩ := e_bind h
  refine kk (n_call Tryd.call70 (w_spec_l20Rd_pick r0p r00a r0.b.length r00c hv11) ?_)
  rintro _ _ ⟨rfl, rfl⟩
  refine kd (v_sub) ?_
  refine kd (v_mv) ?_
  obtain ⟨⟨v16, v17⟩, hv15, h⟩ := e_bind h
  refine kk (n_call Tryd.call70 (w_spec_l20Rd_pick r0p r00a r0.b.length r00c hv15) ?_)
  rintro _ _ ⟨rfl, rfl⟩
  refine kd (v_sub) ?_
  refine kd (v_bd [(0, _), (2, _), (3, _), (4, _)] [_, .int .i64 0, _, _, _] Tryd.zeroValue48 Tryd.runUnderlying48 pl_48) ?_
  refine kk (n_alloc (e := [.int .i64 0, .int .i64 0, .int .i64 0, .int .i64 0, .int .i64 0]) 5 Tryd.zeroValue48 (fun p7_19 => ?_))
  refine kk (s_B (e' := [.int .i64 v4, .int .i64 0, .int .i64 (w64 (v8 - 12)), .int .i64 (w64 (v12 - 12)), .int .i64 (w64 (v16 - 5))]) Tryd.sizeOf48 ?_)
  refine kops_nil ?_
  refine kn_then ?_
  refine kwp_seq ?_
  refine kwp_region ?_
  refine kd (v_mv) ?_
  refine kd (v_mv) ?_
  refine kd (v_max) ?_
  obtain ⟨⟨v21, v22⟩, hv20, h⟩ := e_bind h
  refine kk (n_call Tryd.call70 (w_spec_l20Rd_pick r0p r00a r0.b.length r00c hv20) ?_)
  rintro _ _ ⟨rfl, rfl⟩
  refine kd (v_fb fa_48_1) ?_
  refine kk (s_b (e' := [.int .i64 v4, .int .i64 v21, .int .i64 (w64 (v8 - 12)), .int .i64 (w64 (v12 - 12)), .int .i64 (w64 (v16 - 5))]) Tryd.sizeOf3 ?_)
  refine kops_nil ?_
  refine kn_then ?_
  refine kwp_seq ?_
  refine kwp_seq ?_
  refine kwp_region ?_
  refine kd (v_fb fa_48_1) ?_
  refine kd (v_ldb Tryd.isAgg3) ?_
  refine kd (v_fb fa_48_0) ?_
  refine kd (v_ldb Tryd.isAgg3) ?_
  refine kd (v_cmp) ?_
  refine kops_nil ?_
  refine kn_then ?_
  refine kwp_cutE (inv := [(0, .pointer (some r0p)), (1, .int .i64 stations0), (2, .int .i64 n0), (6, .pointer (some p6_2)), (7, .pointer (some p7_19))]) (fun (z : Int) (y : Unit) => []) (fun (z : Int) (y : Unit) => [⟨.pointer (some p7_19), 5, [[.int .i64 v4, .int .i64 z, .int .i64 (w64 (v8 - 12)), .int .i64 (w64 (v12 - 12)), .int .i64 (w64 (v16 - 5))]]⟩, ⟨.pointer (some r0p), 2, [[.slice r00a r0.b.length r00c, .int .i64 v22]]⟩, ⟨.pointer (some p6_2), 5, [[.int .i64 0, .int .i64 0, .int .i64 0, .int .i64 0, .int .i64 0]]⟩]) (fun _ _ => True) h ?_ ?_
  · intro t27 h25
    refine kwp_cond rfl (fun hc28 => ?_) (fun hc28 => ?_)
    ·
      replace h25 := e_t h25 hc28
      refine kwp_region ?_
      refine kd (v_fb fa_48_0) ?_
      refine kd (v_ldb Tryd.isAgg3) ?_
      refine kd (v_add) ?_
      refine kd (v_mv) ?_
      refine kd (v_max) ?_
      obtain ⟨hz29, h25⟩ := e_need h25
      refine kd (v_rem (h0 := hz29)) ?_
      refine kd (v_fb fa_48_1) ?_
      refine kk (s_b (e' := [.int .i64 v4, .int .i64 (Int.tmod (w64 (v4 + 1)) (max stations0 1)), .int .i64 (w64 (v8 - 12)), .int .i64 (w64 (v12 - 12)), .int .i64 (w64 (v16 - 5))]) Tryd.sizeOf3 ?_)
      refine kops_nil ?_
      refine kn_then ?_
      obtain rfl := e_some h25
      exact ⟨(), hd_mk trivial⟩
    ·
      replace h25 := e_f h25 hc28
      refine kwp_skip ?_
      refine kn_then ?_
      obtain rfl := e_some h25
      exact ⟨(), hd_mk trivial⟩
  · intro t24 y31 _ h32
    refine kn_then ?_
    refine kwp_seq ?_
    refine kwp_seq ?_
    refine kwp_region ?_
    refine kd (v_mv) ?_
    refine kd (v_mv) ?_
    obtain ⟨⟨v34, v35⟩, hv33, h32⟩ := e_bind h32
    refine kk (n_call Tryd.call104 (w_spec_l20Rd_odd r0p r00a r0.b.length r00c hv33) ?_)
    rintro _ _ ⟨rfl, rfl⟩
    refine kops_nil ?_
    refine kn_then ?_
    refine kwp_cond rfl (fun hc37 => ?_) (fun hc37 => ?_)
    ·
      replace h32 := e_t h32 hc37
      refine kwp_seq ?_
      refine kwp_region ?_
      refine kd (v_mv) ?_
      obtain ⟨⟨v39, v40⟩, hv38, h32⟩ := e_bind h32
      refine kk (n_call Tryd.call70 (w_spec_l20Rd_pick r0p r00a r0.b.length r00c hv38) ?_)
      rintro _ _ ⟨rfl, rfl⟩
      refine kops_nil ?_
      refine kn_then ?_
      refine kwp_block ?_
      refine kwp_seq ?_
      refine kwp_region ?_
      refine kd (v_cmp) ?_
      refine kd (v_as) ?_
      refine kops_nil ?_
      refine kn_then ?_
      refine kwp_cond rfl (fun hc42 => ?_) (fun hc42 => ?_)
      ·
        replace h32 := e_t h32 hc42
        refine kwp_region ?_
        refine kd (v_fb fa_48_0) ?_
        refine kd (v_ldb Tryd.isAgg3) ?_
        refine kd (v_fb fa_48_1) ?_
        refine kk (s_b (e' := [.int .i64 v4, .int .i64 v4, .int .i64 (w64 (v8 - 12)), .int .i64 (w64 (v12 - 12)), .int .i64 (w64 (v16 - 5))]) Tryd.sizeOf3 ?_)
        refine kops_nil ?_
        refine kn_block ?_
        refine kn_then ?_
        refine kwp_seq ?_
        refine kwp_region ?_
        refine kd (v_ldB Tryd.isAgg48 Tryd.sizeOf48) ?_
        refine kk (s_B (e' := [.int .i64 v4, .int .i64 v4, .int .i64 (w64 (v8 - 12)), .int .i64 (w64 (v12 - 12)), .int .i64 (w64 (v16 - 5))]) Tryd.sizeOf48 ?_)
        refine kops_nil ?_
        refine kn_then ?_
        refine kwp_ret ?_
        obtain rfl := e_some h32
        refine rc Tryd.isAgg48 Tryd.sizeOf48 [⟨.pointer (some r0p), 2, [[.slice r00a r0.b.length r00c, .int .i64 v40]]⟩] ?_
        exact ⟨rfl, rfl⟩
      ·
        replace h32 := e_f h32 hc42
        refine kwp_seq ?_
        refine kwp_region ?_
        refine kd (v_cmp) ?_
        refine kd (v_as) ?_
        refine kops_nil ?_
        refine kn_then ?_
        refine kwp_cond rfl (fun hc43 => ?_) (fun hc43 => ?_)
        ·
          replace h32 := e_t h32 hc43
          refine kwp_region ?_
          refine kd (v_mv) ?_
          refine kk (n_lit (enc := encI) [_, _] ([(-1), stations0] : List Int) Tryd.runUnderlying26 Tryd.sizeOf3 Tryd.zeroValue3 (fun a44 => ?_))
          refine kd (v_mv) ?_
          obtain ⟨⟨v46, v47⟩, hv45, h32⟩ := e_bind h32
          refine kk (n_call Tryd.call70 (w_spec_l20Rd_pick r0p r00a r0.b.length r00c hv45) ?_)
          rintro _ _ ⟨rfl, rfl⟩
          obtain ⟨j49, ej49, nj49, h32⟩ := e_idx h32
          refine kd (v_ia ej49 nj49 Tryd.runUnderlying26 Tryd.sizeOf3) ?_
          refine kd (v_ldf nj49 Tryd.isAgg3) ?_
          refine kd (v_fb fa_48_0) ?_
          refine kk (s_b (e' := [.int .i64 (gx ([(-1), stations0] : List Int) j49), .int .i64 t24, .int .i64 (w64 (v8 - 12)), .int .i64 (w64 (v12 - 12)), .int .i64 (w64 (v16 - 5))]) Tryd.sizeOf3 ?_)
          refine kops_nil ?_
          refine kn_block ?_
          refine kn_then ?_
          refine kwp_seq ?_
          refine kwp_region ?_
          refine kd (v_ldB Tryd.isAgg48 Tryd.sizeOf48) ?_
          refine kk (s_B (e' := [.int .i64 (gx ([(-1), stations0] : List Int) j49), .int .i64 t24, .int .i64 (w64 (v8 - 12)), .int .i64 (w64 (v12 - 12)), .int .i64 (w64 (v16 - 5))]) Tryd.sizeOf48 ?_)
          refine kops_nil ?_
          refine kn_then ?_
          refine kwp_ret ?_
          obtain rfl := e_some h32
          refine rc Tryd.isAgg48 Tryd.sizeOf48 [⟨.pointer (some r0p), 2, [[.slice r00a r0.b.length r00c, .int .i64 v47]]⟩] ?_
          exact ⟨rfl, rfl⟩
        ·
          replace h32 := e_f h32 hc43
          refine kwp_region ?_
          refine kk (n_lit (enc := encI) [_, _] ([(-100), 100] : List Int) Tryd.runUnderlying26 Tryd.sizeOf3 Tryd.zeroValue3 (fun a50 => ?_))
          refine kd (v_mv) ?_
          obtain ⟨⟨v52, v53⟩, hv51, h32⟩ := e_bind h32
          refine kk (n_call Tryd.call70 (w_spec_l20Rd_pick r0p r00a r0.b.length r00c hv51) ?_)
          rintro _ _ ⟨rfl, rfl⟩
          obtain ⟨j55, ej55, nj55, h32⟩ := e_idx h32
          refine kd (v_ia ej55 nj55 Tryd.runUnderlying26 Tryd.sizeOf3) ?_
          refine kd (v_ldf nj55 Tryd.isAgg3) ?_
          refine kd (v_fb fa_48_2) ?_
          refine kk (s_b (e' := [.int .i64 v4, .int .i64 t24, .int .i64 (gx ([(-100), 100] : List Int) j55), .int .i64 (w64 (v12 - 12)), .int .i64 (w64 (v16 - 5))]) Tryd.sizeOf3 ?_)
          refine kops_nil ?_
          refine kn_block ?_
          refine kn_then ?_
          refine kwp_seq ?_
          refine kwp_region ?_
          refine kd (v_ldB Tryd.isAgg48 Tryd.sizeOf48) ?_
          refine kk (s_B (e' := [.int .i64 v4, .int .i64 t24, .int .i64 (gx ([(-100), 100] : List Int) j55), .int .i64 (w64 (v12 - 12)), .int .i64 (w64 (v16 - 5))]) Tryd.sizeOf48 ?_)
          refine kops_nil ?_
          refine kn_then ?_
          refine kwp_ret ?_
          obtain rfl := e_some h32
          refine rc Tryd.isAgg48 Tryd.sizeOf48 [⟨.pointer (some r0p), 2, [[.slice r00a r0.b.length r00c, .int .i64 v53]]⟩] ?_
          exact ⟨rfl, rfl⟩
    ·
      replace h32 := e_f h32 hc37
      refine kwp_skip ?_
      refine kn_then ?_
      refine kwp_seq ?_
      refine kwp_region ?_
      refine kd (v_ldB Tryd.isAgg48 Tryd.sizeOf48) ?_
      refine kk (s_B (e' := [.int .i64 v4, .int .i64 t24, .int .i64 (w64 (v8 - 12)), .int .i64 (w64 (v12 - 12)), .int .i64 (w64 (v16 - 5))]) Tryd.sizeOf48 ?_)
      refine kops_nil ?_
      refine kn_then ?_
      refine kwp_ret ?_
      obtain rfl := e_some h32
      refine rc Tryd.isAgg48 Tryd.sizeOf48 [⟨.pointer (some r0p), 2, [[.slice r00a r0.b.length r00c, .int .i64 v35]]⟩] ?_
      exact ⟨rfl, rfl⟩

set_option maxRecDepth 20000 in
set_option maxHeartbeats 2000000 in
theorem w_spec_l20Survey (r0p : Addr) (r00a : Option Addr) (r00n : Nat) (r00c : Nat) {r0 : Rd} {n0 : Int} {r : Survey × Int} (h : p_spec_l20Survey r0 n0 = some r) :
    Triple Tryd.prog 110 [.pointer (some r0p), .int .i64 n0] [⟨.slice r00a r00n r00c, 1, r0.b.map encB⟩] [⟨.pointer (some r0p), 2, [[.slice r00a r00n r00c, .int .i64 r0.p]]⟩] (fun v ch => ∃ (w01a : Option Addr) (w01c : Nat), v = .agg #[.int .i64 r.1.st, .slice w01a r.1.legs.length w01c] ∧ ch = [⟨.slice w01a r.1.legs.length w01c, 5, r.1.legs.map encLeg⟩, ⟨.pointer (some r0p), 2, [[.slice r00a r00n r00c, .int .i64 r.2]]⟩]) := by
  refine triple_start 160 Tryd.func110 Tryd.ntmps110 rfl rfl (fun w0 => ?_)
  refine k_len (c := r00c) (fun hl1 => ?_)
  subst hl1
  unfold p_spec_l20Survey at h
  refine kwp_seq ?_
  refine kwp_region ?_
  refine kops_nilchunk 5 (by decide) ?_
  refine kk (n_alloc (e := [.int .i64 0, .slice none 0 0]) 2 Tryd.zeroValue25 (fun p4_2 => ?_))
  refine kops_nil ?_
  refine kn_then ?_
  refine kwp_seq ?_
  refine kwp_region ?_
  refine kd (v_mv) ?_
  obtain ⟨⟨v4, v5⟩, hv3, h⟩ := e_bind h
  refine kk (n_call Tryd.call70 (w_spec_l20Rd_pick r0p r00a r0.b.length r00c hv3) ?_)
  rintro _ _ ⟨rfl, rfl⟩
  refine kd (v_add) ?_
  refine kops_nilchunk 5 (by decide) ?_
  refine kd (v_bd [(0, _)] [_, .slice none 0 0] Tryd.zeroValue25 Tryd.runUnderlying25 pl_25) ?_
  refine kops_nilchunk 5 (by decide) ?_
  refine kk (n_alloc (e := [.int .i64 0, .slice none 0 0]) 2 Tryd.zeroValue25 (fun p5_7 => ?_))
  refine kk (s_B (e' := [.int .i64 (w64 (2 + v4)), .slice none 0 0]) Tryd.sizeOf25 ?_)
  refine kops_nil ?_
  refine kn_then ?_
  refine kwp_seq ?_
  refine kwp_region ?_
  refine kd (v_mv) ?_
  obtain ⟨⟨v9, v10⟩, hv8, h⟩ := e_bind h
  refine kk (n_call Tryd.call70 (w_spec_l20Rd_pick r0p r00a r0.b.length r00c hv8) ?_)
  rintro _ _ ⟨rfl, rfl⟩
  refine kd (v_cmp) ?_
  refine kd (v_as) ?_
  refine kops_nil ?_
  refine kn_then ?_
  refine kwp_seq ?_
  refine kwp_seq ?_
  refine kwp_region ?_
  refine kd (v_as) ?_
  refine kops_nil ?_
  refine kn_then ?_
  refine kwp_cutE (inv := [(0, .pointer (some r0p)), (1, .int .i64 n0), (4, .pointer (some p4_2)), (5, .pointer (some p5_7))]) (fun (z : Int × List Leg) (y : Option Addr × Nat × Nat) => []) (fun (z : Int × List Leg) (y : Option Addr × Nat × Nat) => [⟨.pointer (some r0p), 2, [[.slice r00a r0.b.length r00c, .int .i64 z.1]]⟩, ⟨.pointer (some p5_7), 2, [[.int .i64 (w64 (2 + v4)), .slice y.1 y.2.1 y.2.2]]⟩, ⟨.slice y.1 y.2.1 y.2.2, 5, z.2.map encLeg⟩, ⟨.pointer (some p4_2), 2, [[.int .i64 0, .slice none 0 0]]⟩, ⟨.slice none 0 0, 5, ([] : List Leg).map encLeg⟩]) (fun _ _ => True) h ?_ ?_
  · intro t16 h14
    refine kwp_block ?_
    refine kwp_loopE (inv := [(0, .pointer (some r0p)), (1, .int .i64 n0), (4, .pointer (some p4_2)), (5, .pointer (some p5_7)), (6, .bool (v9 == 0))]) (fun (z : Int × Int × List Leg) (y : Option Addr × Nat × Nat) => [(7, .int .i64 z.1)]) (fun (z : Int × Int × List Leg) (y : Option Addr × Nat × Nat) => [⟨.pointer (some r0p), 2, [[.slice r00a r0.b.length r00c, .int .i64 z.2.1]]⟩, ⟨.pointer (some p5_7), 2, [[.int .i64 (w64 (2 + v4)), .slice y.1 y.2.1 y.2.2]]⟩, ⟨.slice y.1 y.2.1 y.2.2, 5, z.2.2.map encLeg⟩, ⟨.pointer (some p4_2), 2, [[.int .i64 0, .slice none 0 0]]⟩, ⟨.slice none 0 0, 5, ([] : List Leg).map encLeg⟩]) (fun _ _ => True) h14 ⟨(none, 0, 0), hd_mk trivial⟩ ?_
    intro z22 y23 b20 _ h21
    obtain ⟨k17, p18, legs19⟩ := z22
    obtain ⟨legs19a, legs19n, legs19c⟩ := y23
    refine k_len (c := legs19c) (fun hl24 => ?_)
    subst hl24
    unfold p_spec_l20Survey_L0 at h21
    refine kwp_seq ?_
    refine kwp_seq ?_
    refine kwp_region ?_
    refine kd (v_mv) ?_
    refine kd (v_fb fa_25_0) ?_
    refine kd (v_ldb Tryd.isAgg3) ?_
    refine kd (v_cmp) ?_
    refine kops_nil ?_
    refine kn_then ?_
    refine kwp_cond rfl (fun hc25 => ?_) (fun hc25 => ?_)
    ·
      replace h21 := e_t h21 hc25
      refine kwp_skip ?_
      refine kn_then ?_
      refine kwp_seq ?_
      refine kwp_block ?_
      refine kwp_seq ?_
      refine kwp_cutE (inv := [(0, .pointer (some r0p)), (1, .int .i64 n0), (4, .pointer (some p4_2)), (5, .pointer (some p5_7)), (6, .bool (v9 == 0)), (7, .int .i64 k17)]) (fun (z : Bool × Int) (y : Unit) => [(36, .bool z.1)]) (fun (z : Bool × Int) (y : Unit) => [⟨.pointer (some r0p), 2, [[.slice r00a r0.b.length r00c, .int .i64 z.2]]⟩, ⟨.pointer (some p4_2), 2, [[.int .i64 0, .slice none 0 0]]⟩, ⟨.slice none 0 0, 5, ([] : List Leg).map encLeg⟩, ⟨.pointer (some p5_7), 2, [[.int .i64 (w64 (2 + v4)), .slice legs19a legs19.length legs19c]]⟩, ⟨.slice legs19a (legs19.length) legs19c, 5, legs19.map encLeg⟩]) (fun _ _ => True) h21 ?_ ?_
      · intro t30 h28
        refine kwp_region ?_
        refine kd (v_mv) ?_
        refine kd (v_not) ?_
        refine kd (v_mv) ?_
        refine kops_split 32 rfl (fun hb31 => ?_) (fun hb31 => ?_)
        ·
          replace h28 := e_t h28 hb31
          refine kskip hb31 ?_
          refine kskip hb31 ?_
          refine kskip hb31 ?_
          refine kd (v_pt hb31) ?_
          refine kops_nil ?_
          refine kn_then ?_
          obtain rfl := e_some h28
          exact ⟨(), hd_mk trivial⟩
        ·
          replace h28 := e_f h28 hb31
          refine kgd hb31 (v_mv) ?_
          obtain ⟨⟨v33, v34⟩, hv32, h28⟩ := e_bind h28
          refine kgk hb31 (n_call Tryd.call70 (w_spec_l20Rd_pick r0p r00a r0.b.length r00c hv32) ?_)
          rintro _ _ ⟨rfl, rfl⟩
          refine kgd hb31 (v_cmp) ?_
          refine kd (v_pf hb31) ?_
          refine kops_nil ?_
          refine kn_then ?_
          obtain rfl := e_some h28
          exact ⟨(), hd_mk trivial⟩
      · intro z36 y37 _ h38
        obtain ⟨x26, p27⟩ := z36
        refine kn_then ?_
        refine kwp_cond rfl (fun hc39 => ?_) (fun hc39 => ?_)
        ·
          replace h38 := e_t h38 hc39
          refine kwp_seq ?_
          refine kwp_region ?_
          refine kd (v_mv) ?_
          refine kd (v_fb fa_25_0) ?_
          refine kd (v_ldb Tryd.isAgg3) ?_
          obtain ⟨⟨v41, v42⟩, hv40, h38⟩ := e_bind h38
          refine kk (n_call Tryd.call113 (w_spec_l20Leg r0p r00a r0.b.length r00c hv40) ?_)
          rintro _ _ ⟨rfl, rfl⟩
          refine kk (n_alloc (e := [.int .i64 0, .int .i64 0, .int .i64 0, .int .i64 0, .int .i64 0]) 5 Tryd.zeroValue48 (fun p8_44 => ?_))
          refine kk (s_B (e' := [.int .i64 v41.f, .int .i64 v41.t, .int .i64 v41.e, .int .i64 v41.n, .int .i64 v41.u]) Tryd.sizeOf48 ?_)
          refine kops_nil ?_
          refine kn_then ?_
          refine kwp_seq ?_
          refine kwp_region ?_
          refine kd (v_mv) ?_
          refine kd (v_mv) ?_
          obtain ⟨⟨v46, v47⟩, hv45, h38⟩ := e_bind h38
          refine kk (n_call Tryd.call70 (w_spec_l20Rd_pick r0p r00a r0.b.length r00c hv45) ?_)
          rintro _ _ ⟨rfl, rfl⟩
          refine kd (v_fb fa_48_0) ?_
          refine kk (s_b (e' := [.int .i64 v46, .int .i64 v41.t, .int .i64 v41.e, .int .i64 v41.n, .int .i64 v41.u]) Tryd.sizeOf3 ?_)
          refine kops_nil ?_
          refine kn_then ?_
          refine kwp_seq ?_
          refine kwp_region ?_
          refine kd (v_mv) ?_
          refine kd (v_fb fa_48_1) ?_
          refine kk (s_b (e' := [.int .i64 v46, .int .i64 k17, .int .i64 v41.e, .int .i64 v41.n, .int .i64 v41.u]) Tryd.sizeOf3 ?_)
          refine kops_nil ?_
          refine kn_then ?_
          refine kwp_seq ?_
          refine kwp_seq ?_
          refine kwp_region ?_
          refine kd (v_mv) ?_
          obtain ⟨⟨v50, v51⟩, hv49, h38⟩ := e_bind h38
          refine kk (n_call Tryd.call70 (w_spec_l20Rd_pick r0p r00a r0.b.length r00c hv49) ?_)
          rintro _ _ ⟨rfl, rfl⟩
          refine kd (v_cmp) ?_
          refine kops_nil ?_
          refine kn_then ?_
          refine kwp_cutE (inv := [(0, .pointer (some r0p)), (1, .int .i64 n0), (4, .pointer (some p4_2)), (5, .pointer (some p5_7)), (6, .bool (v9 == 0)), (7, .int .i64 k17), (8, .pointer (some p8_44))]) (fun (z : Int × Int × Int × Int × Int) (y : Unit) => []) (fun (z : Int × Int × Int × Int × Int) (y : Unit) => [⟨.pointer (some p8_44), 5, [[.int .i64 z.1, .int .i64 z.2.1, .int .i64 z.2.2.1, .int .i64 z.2.2.2.1, .int .i64 z.2.2.2.2]]⟩, ⟨.pointer (some r0p), 2, [[.slice r00a r0.b.length r00c, .int .i64 v51]]⟩, ⟨.pointer (some p4_2), 2, [[.int .i64 0, .slice none 0 0]]⟩, ⟨.slice none 0 0, 5, ([] : List Leg).map encLeg⟩, ⟨.pointer (some p5_7), 2, [[.int .i64 (w64 (2 + v4)), .slice legs19a legs19.length legs19c]]⟩, ⟨.slice legs19a (legs19.length) legs19c, 5, legs19.map encLeg⟩]) (fun _ _ => True) h38 ?_ ?_
          · intro t60 h58
            refine kwp_cond rfl (fun hc61 => ?_) (fun hc61 => ?_)
            ·
              replace h58 := e_t h58 hc61
              refine kwp_region ?_
              refine kd (v_ldB Tryd.isAgg48 Tryd.sizeOf48) ?_
              obtain ⟨v63, hv62, h58⟩ := e_bind h58
              refine kk (n_call Tryd.call86 (w_spec_LegBack hv62) ?_)
              rintro _ _ ⟨rfl, rfl⟩
              refine kk (s_B (e' := [.int .i64 v63.f, .int .i64 v63.t, .int .i64 v63.e, .int .i64 v63.n, .int .i64 v63.u]) Tryd.sizeOf48 ?_)
              refine kops_nil ?_
              refine kn_then ?_
              obtain rfl := e_some h58
              exact ⟨(), hd_mk trivial⟩
            ·
              replace h58 := e_f h58 hc61
              refine kwp_skip ?_
              refine kn_then ?_
              obtain rfl := e_some h58
              exact ⟨(), hd_mk trivial⟩
          · intro z65 y66 _ h67
            obtain ⟨f53, t54, e55, n56, u57⟩ := z65
            refine kn_then ?_
            refine kwp_region ?_
            refine kd (v_fb fa_25_1) ?_
            refine kd (v_ldb Tryd.isAgg23) ?_
            refine kd (v_ldB Tryd.isAgg48 Tryd.sizeOf48) ?_
            refine kk (n_lit (enc := encLeg) [_] ([(⟨f53, t54, e55, n56, u57⟩ : Leg)] : List Leg) Tryd.runUnderlying23 Tryd.sizeOf48 Tryd.zeroValue48 (fun a68 => ?_))
            obtain ⟨hz69, h67⟩ := e_need h67
            refine kk (n_app (enc := encLeg) ok_encLeg hz69 Tryd.underlying23 Tryd.type48 (by decide) (fun a70 c71 => ?_))
            refine kd (v_fb fa_25_1) ?_
            refine kk (s_b (e' := [.int .i64 (w64 (2 + v4)), .slice a70 ((legs19 ++ ([(⟨f53, t54, e55, n56, u57⟩ : Leg)] : List Leg)).length) c71]) Tryd.sizeOf23 ?_)
            refine kops_nil ?_
            refine kn_block ?_
            refine kn_then ?_
            refine kwp_region ?_
            refine kd (v_mv) ?_
            refine kd (v_add) ?_
            refine kd (v_as) ?_
            refine kops_nil ?_
            refine kn_then ?_
            obtain rfl := e_some h67
            exact ⟨_, (a70, (legs19 ++ ([(⟨f53, t54, e55, n56, u57⟩ : Leg)] : List Leg)).length, c71), rfl, hd_mk trivial⟩
        ·
          replace h38 := e_f h38 hc39
          refine kwp_skip ?_
          refine kn_block ?_
          refine kn_then ?_
          refine kwp_region ?_
          refine kd (v_mv) ?_
          refine kd (v_add) ?_
          refine kd (v_as) ?_
          refine kops_nil ?_
          refine kn_then ?_
          obtain rfl := e_some h38
          exact ⟨_, (legs19a, legs19.length, legs19c), rfl, hd_mk trivial⟩
    ·
      replace h21 := e_f h21 hc25
      refine kwp_exit ?_
      refine ke_then ?_
      obtain rfl := e_some h21
      refine k_out ?_ rfl
      rintro rfl
      refine ke_block ?_
      exact ⟨(legs19a, legs19.length, legs19c), hd_mk trivial⟩
  · intro z72 y73 _ h74
    obtain ⟨p12, legs13⟩ := z72
    obtain ⟨legs13a, legs13n, legs13c⟩ := y73
    refine k_len (c := legs13c) (fun hl75 => ?_)
    subst hl75
    refine kwp_seq ?_
    refine kwp_region ?_
    refine kd (v_mv) ?_
    obtain ⟨⟨v77, v78⟩, hv76, h74⟩ := e_bind h74
    refine kk (n_call Tryd.call70 (w_spec_l20Rd_pick r0p r00a r0.b.length r00c hv76) ?_)
    rintro _ _ ⟨rfl, rfl⟩
    refine kd (v_cmp) ?_
    refine kd (v_as) ?_
    refine kops_nil ?_
    refine kn_then ?_
    refine kwp_seq ?_
    refine kwp_seq ?_
    refine kwp_region ?_
    refine kd (v_mv) ?_
    obtain ⟨⟨v81, v82⟩, hv80, h74⟩ := e_bind h74
    refine kk (n_call Tryd.call70 (w_spec_l20Rd_pick r0p r00a r0.b.length r00c hv80) ?_)
    rintro _ _ ⟨rfl, rfl⟩
    refine kd (v_as) ?_
    refine kops_nil ?_
    refine kn_then ?_
    refine kwp_cutE (inv := [(0, .pointer (some r0p)), (1, .int .i64 n0), (4, .pointer (some p4_2)), (5, .pointer (some p5_7))]) (fun (z : Int × List Leg) (y : Option Addr × Nat × Nat) => []) (fun (z : Int × List Leg) (y : Option Addr × Nat × Nat) => [⟨.pointer (some r0p), 2, [[.slice r00a r0.b.length r00c, .int .i64 z.1]]⟩, ⟨.pointer (some p5_7), 2, [[.int .i64 (w64 (2 + v4)), .slice y.1 y.2.1 y.2.2]]⟩, ⟨.slice y.1 y.2.1 y.2.2, 5, z.2.map encLeg⟩, ⟨.pointer (some p4_2), 2, [[.int .i64 0, .slice none 0 0]]⟩, ⟨.slice none 0 0, 5, ([] : List Leg).map encLeg⟩]) (fun _ _ => True) h74 ?_ ?_
    · intro t88 h86
      refine kwp_block ?_
      refine kwp_loopE (inv := [(0, .pointer (some r0p)), (1, .int .i64 n0), (4, .pointer (some p4_2)), (5, .pointer (some p5_7)), (9, .bool (v77 == 0))]) (fun (z : Int × Int × List Leg) (y : Option Addr × Nat × Nat) => [(10, .int .i64 z.1)]) (fun (z : Int × Int × List Leg) (y : Option Addr × Nat × Nat) => [⟨.pointer (some r0p), 2, [[.slice r00a r0.b.length r00c, .int .i64 z.2.1]]⟩, ⟨.pointer (some p5_7), 2, [[.int .i64 (w64 (2 + v4)), .slice y.1 y.2.1 y.2.2]]⟩, ⟨.slice y.1 y.2.1 y.2.2, 5, z.2.2.map encLeg⟩, ⟨.pointer (some p4_2), 2, [[.int .i64 0, .slice none 0 0]]⟩, ⟨.slice none 0 0, 5, ([] : List Leg).map encLeg⟩]) (fun _ _ => True) h86 ⟨(legs13a, legs13.length, legs13c), hd_mk trivial⟩ ?_
      intro z94 y95 b92 _ h93
      obtain ⟨k89, p90, legs91⟩ := z94
      obtain ⟨legs91a, legs91n, legs91c⟩ := y95
      refine k_len (c := legs91c) (fun hl96 => ?_)
      subst hl96
      unfold p_spec_l20Survey_L1 at h93
      refine kwp_seq ?_
      refine kwp_seq ?_
      refine kwp_cutE (inv := [(0, .pointer (some r0p)), (1, .int .i64 n0), (4, .pointer (some p4_2)), (5, .pointer (some p5_7)), (9, .bool (v77 == 0)), (10, .int .i64 k89)]) (fun (z : Bool) (y : Unit) => [(70, .bool z)]) (fun (z : Bool) (y : Unit) => [⟨.pointer (some r0p), 2, [[.slice r00a r0.b.length r00c, .int .i64 p90]]⟩, ⟨.pointer (some p4_2), 2, [[.int .i64 0, .slice none 0 0]]⟩, ⟨.slice none 0 0, 5, ([] : List Leg).map encLeg⟩, ⟨.pointer (some p5_7), 2, [[.int .i64 (w64 (2 + v4)), .slice legs91a legs91.length legs91c]]⟩, ⟨.slice legs91a (legs91.length) legs91c, 5, legs91.map encLeg⟩]) (fun _ _ => True) h93 ?_ ?_
      · intro t100 h98
        refine kwp_region ?_
        refine kd (v_mv) ?_
        refine kd (v_cmp) ?_
        refine kd (v_mv) ?_
        refine kops_split 65 rfl (fun hb101 => ?_) (fun hb101 => ?_)
        ·
          replace h98 := e_t h98 hb101
          refine kgd hb101 (v_fb fa_25_1) ?_
          refine kgd hb101 (v_ldb Tryd.isAgg23) ?_
          refine kgd hb101 (v_len Tryd.runUnderlying23) ?_
          refine kgd hb101 (v_cmp) ?_
          refine kd (v_pt hb101) ?_
          refine kops_nil ?_
          refine kn_then ?_
          obtain rfl := e_some h98
          exact ⟨(), hd_mk trivial⟩
        ·
          replace h98 := e_f h98 hb101
          refine kskip hb101 ?_
          refine kskip hb101 ?_
          refine kskip hb101 ?_
          refine kskip hb101 ?_
          refine kd (v_pf hb101) ?_
          refine kops_nil ?_
          refine kn_then ?_
          obtain rfl := e_some h98
          exact ⟨(), hd_mk trivial⟩
      · intro x97 y103 _ h104
        refine kn_then ?_
        refine kwp_cond rfl (fun hc105 => ?_) (fun hc105 => ?_)
        ·
          replace h104 := e_t h104 hc105
          refine kwp_skip ?_
          refine kn_then ?_
          refine kwp_seq ?_
          refine kwp_block ?_
          refine kwp_seq ?_
          refine kwp_region ?_
          refine kd (v_mv) ?_
          refine kd (v_fb fa_25_0) ?_
          refine kd (v_ldb Tryd.isAgg3) ?_
          obtain ⟨⟨v107, v108⟩, hv106, h104⟩ := e_bind h104
          refine kk (n_call Tryd.call113 (w_spec_l20Leg r0p r00a r0.b.length r00c hv106) ?_)
          rintro _ _ ⟨rfl, rfl⟩
          refine kk (n_alloc (e := [.int .i64 0, .int .i64 0, .int .i64 0, .int .i64 0, .int .i64 0]) 5 Tryd.zeroValue48 (fun p11_110 => ?_))
          refine kk (s_B (e' := [.int .i64 v107.f, .int .i64 v107.t, .int .i64 v107.e, .int .i64 v107.n, .int .i64 v107.u]) Tryd.sizeOf48 ?_)
          refine kops_nil ?_
          refine kn_then ?_
          refine kwp_seq ?_
          refine kwp_region ?_
          refine kd (v_ldB Tryd.isAgg25 Tryd.sizeOf25) ?_
          refine kd (v_fb fa_48_0) ?_
          refine kd (v_ldb Tryd.isAgg3) ?_
          obtain ⟨⟨v112, v113⟩, hv111, h104⟩ := e_bind h104
          refine kk (n_call Tryd.call73 (w_spec_TreePlace legs91a legs91.length legs91c hv111) ?_)
          rintro _ _ ⟨rfl, rfl⟩
          refine kd (v_mv) ?_
          refine kd (v_ex) ?_
          refine kd (v_ex) ?_
          refine kk (n_alloc (e := [.int .i64 0, .int .i64 0, .int .i64 0]) 3 Tryd.zeroValue37 (fun p12_116 => ?_))
          refine kk (s_B (e' := [.int .i64 v112.e, .int .i64 v112.n, .int .i64 v112.u]) Tryd.sizeOf37 ?_)
          refine kd (v_as) ?_
          refine kops_nil ?_
          refine kn_then ?_
          refine kwp_seq ?_
          refine kwp_region ?_
          refine kd (v_ldB Tryd.isAgg25 Tryd.sizeOf25) ?_
          refine kd (v_fb fa_48_1) ?_
          refine kd (v_ldb Tryd.isAgg3) ?_
          obtain ⟨⟨v118, v119⟩, hv117, h104⟩ := e_bind h104
          refine kk (n_call Tryd.call73 (w_spec_TreePlace legs91a legs91.length legs91c hv117) ?_)
          rintro _ _ ⟨rfl, rfl⟩
          refine kd (v_mv) ?_
          refine kd (v_ex) ?_
          refine kd (v_ex) ?_
          refine kk (n_alloc (e := [.int .i64 0, .int .i64 0, .int .i64 0]) 3 Tryd.zeroValue37 (fun p14_122 => ?_))
          refine kk (s_B (e' := [.int .i64 v118.e, .int .i64 v118.n, .int .i64 v118.u]) Tryd.sizeOf37 ?_)
          refine kd (v_as) ?_
          refine kops_nil ?_
          refine kn_then ?_
          refine kwp_seq ?_
          obtain ⟨v124, hv123, h104⟩ := e_bind h104
          obtain ⟨v127, hv126, h104⟩ := e_bind h104
          refine kwp_cutS (inv := [(0, .pointer (some r0p)), (1, .int .i64 n0), (4, .pointer (some p4_2)), (5, .pointer (some p5_7)), (9, .bool (v77 == 0)), (10, .int .i64 k89), (11, .pointer (some p11_110)), (13, .bool v113), (15, .bool v119)]) (fun (y : Addr) => [(16, .pointer (some y))]) (fun (y : Addr) => [⟨.pointer (some r0p), 2, [[.slice r00a r0.b.length r00c, .int .i64 v108]]⟩, ⟨.pointer (some p4_2), 2, [[.int .i64 0, .slice none 0 0]]⟩, ⟨.slice none 0 0, 5, ([] : List Leg).map encLeg⟩, ⟨.pointer (some p5_7), 2, [[.int .i64 (w64 (2 + v4)), .slice legs91a legs91.length legs91c]]⟩, ⟨.slice legs91a (legs91.length) legs91c, 5, legs91.map encLeg⟩, ⟨.pointer (some p11_110), 5, [[.int .i64 v107.f, .int .i64 v107.t, .int .i64 v107.e, .int .i64 v107.n, .int .i64 v107.u]]⟩, ⟨.pointer (some y), 3, [[.int .i64 v127.e, .int .i64 v127.n, .int .i64 v127.u]]⟩]) (fun (y : Addr) => True) ?_ ?_
          ·
            refine kwp_tree (.quiet 0 (.quiet 1 (.two 2 (.two 3 (.one 4 (.one 5 .stop)) 4 (.one 3 (.one 5 .stop))) 4 (.one 2 (.one 3 (.one 5 .stop)))))) [] [⟨.pointer (some p12_116), 3, [[.int .i64 v112.e, .int .i64 v112.n, .int .i64 v112.u]]⟩, ⟨.pointer (some p14_122), 3, [[.int .i64 v118.e, .int .i64 v118.n, .int .i64 v118.u]]⟩] drawMixed (by kernel_rfl) nopan (by (repeat (first | exact Sub.refl _ | exact Sub.nil _ | refine Sub.chunk (by repeat (first | exact Pick.here | apply Pick.there | apply Pick.seg)) (by rfl) ?_ | refine Sub.seg (by repeat (first | exact PickSeg.here | exact PickSeg.all | apply PickSeg.there | apply PickSeg.seg)) ?_ | exact Sub.seg0 (by repeat (first | exact PickSeg.here | exact PickSeg.all | apply PickSeg.there | apply PickSeg.seg)) | apply Sub.assoc))) ?_
            refine kt_d rfl rfl rfl (v_ldB Tryd.isAgg37 Tryd.sizeOf37) ?_
            refine kt_d rfl rfl rfl (v_ldB Tryd.isAgg37 Tryd.sizeOf37) ?_
            refine kt_two ?_ ?_
            ·
              refine kl_k rfl rfl (n_call Tryd.call99 (w_spec_WayTimes hv123) ?_)
              rintro _ _ ⟨rfl, rfl⟩
              refine ⟨.inl (by (repeat (first | exact Sub.refl _ | exact Sub.nil _ | refine Sub.chunk (by repeat (first | exact Pick.here | apply Pick.there | apply Pick.seg)) (by rfl) ?_ | refine Sub.seg (by repeat (first | exact PickSeg.here | exact PickSeg.all | apply PickSeg.there | apply PickSeg.seg)) ?_ | exact Sub.seg0 (by repeat (first | exact PickSeg.here | exact PickSeg.all | apply PickSeg.there | apply PickSeg.seg)) | apply Sub.assoc))), ?_⟩
              refine kt_two ?_ ?_
              ·
                refine kl_k rfl rfl (n_call Tryd.call78 (w_spec_WayAdd hv126) ?_)
                rintro _ _ ⟨rfl, rfl⟩
                refine ⟨.inl (by (repeat (first | exact Sub.refl _ | exact Sub.nil _ | refine Sub.chunk (by repeat (first | exact Pick.here | apply Pick.there | apply Pick.seg)) (by rfl) ?_ | refine Sub.seg (by repeat (first | exact PickSeg.here | exact PickSeg.all | apply PickSeg.there | apply PickSeg.seg)) ?_ | exact Sub.seg0 (by repeat (first | exact PickSeg.here | exact PickSeg.all | apply PickSeg.there | apply PickSeg.seg)) | apply Sub.assoc))), ?_⟩
                refine kt_one ?_
                refine kl_k rfl rfl (n_alloc (e := [.int .i64 0, .int .i64 0, .int .i64 0]) 3 Tryd.zeroValue37 (fun p16_129 => ?_))
                refine ⟨.inl (by (repeat (first | exact Sub.refl _ | exact Sub.nil _ | refine Sub.chunk (by repeat (first | exact Pick.here | apply Pick.there | apply Pick.seg)) (by rfl) ?_ | refine Sub.seg (by repeat (first | exact PickSeg.here | exact PickSeg.all | apply PickSeg.there | apply PickSeg.seg)) ?_ | exact Sub.seg0 (by repeat (first | exact PickSeg.here | exact PickSeg.all | apply PickSeg.there | apply PickSeg.seg)) | apply Sub.assoc))), ?_⟩
                refine kt_one ?_
                refine kl_k rfl rfl (s_B (e' := [.int .i64 v127.e, .int .i64 v127.n, .int .i64 v127.u]) Tryd.sizeOf37 ?_)
                refine ⟨.inl (by (repeat (first | exact Sub.refl _ | exact Sub.nil _ | refine Sub.chunk (by repeat (first | exact Pick.here | apply Pick.there | apply Pick.seg)) (by rfl) ?_ | refine Sub.seg (by repeat (first | exact PickSeg.here | exact PickSeg.all | apply PickSeg.there | apply PickSeg.seg)) ?_ | exact Sub.seg0 (by repeat (first | exact PickSeg.here | exact PickSeg.all | apply PickSeg.there | apply PickSeg.seg)) | apply Sub.assoc))), ?_⟩
                refine kt_nil ?_
                refine kn_then ?_
                exact ⟨p16_129, hd_mk trivial⟩
              ·
                refine kl_k rfl rfl (n_alloc (e := [.int .i64 0, .int .i64 0, .int .i64 0]) 3 Tryd.zeroValue37 (fun p16_129 => ?_))
                refine ⟨.inl (by (repeat (first | exact Sub.refl _ | exact Sub.nil _ | refine Sub.chunk (by repeat (first | exact Pick.here | apply Pick.there | apply Pick.seg)) (by rfl) ?_ | refine Sub.seg (by repeat (first | exact PickSeg.here | exact PickSeg.all | apply PickSeg.there | apply PickSeg.seg)) ?_ | exact Sub.seg0 (by repeat (first | exact PickSeg.here | exact PickSeg.all | apply PickSeg.there | apply PickSeg.seg)) | apply Sub.assoc))), ?_⟩
                refine kt_one ?_
                refine kl_k rfl rfl (n_call Tryd.call78 (w_spec_WayAdd hv126) ?_)
                rintro _ _ ⟨rfl, rfl⟩
                refine ⟨.inl (by (repeat (first | exact Sub.refl _ | exact Sub.nil _ | refine Sub.chunk (by repeat (first | exact Pick.here | apply Pick.there | apply Pick.seg)) (by rfl) ?_ | refine Sub.seg (by repeat (first | exact PickSeg.here | exact PickSeg.all | apply PickSeg.there | apply PickSeg.seg)) ?_ | exact Sub.seg0 (by repeat (first | exact PickSeg.here | exact PickSeg.all | apply PickSeg.there | apply PickSeg.seg)) | apply Sub.assoc))), ?_⟩
                refine kt_one ?_
                refine kl_k rfl rfl (s_B (e' := [.int .i64 v127.e, .int .i64 v127.n, .int .i64 v127.u]) Tryd.sizeOf37 ?_)
                refine ⟨.inl (by (repeat (first | exact Sub.refl _ | exact Sub.nil _ | refine Sub.chunk (by repeat (first | exact Pick.here | apply Pick.there | apply Pick.seg)) (by rfl) ?_ | refine Sub.seg (by repeat (first | exact PickSeg.here | exact PickSeg.all | apply PickSeg.there | apply PickSeg.seg)) ?_ | exact Sub.seg0 (by repeat (first | exact PickSeg.here | exact PickSeg.all | apply PickSeg.there | apply PickSeg.seg)) | apply Sub.assoc))), ?_⟩
                refine kt_nil ?_
                refine kn_then ?_
                exact ⟨p16_129, hd_mk trivial⟩
            ·
              refine kl_k rfl rfl (n_alloc (e := [.int .i64 0, .int .i64 0, .int .i64 0]) 3 Tryd.zeroValue37 (fun p16_129 => ?_))
              refine ⟨.inl (by (repeat (first | exact Sub.refl _ | exact Sub.nil _ | refine Sub.chunk (by repeat (first | exact Pick.here | apply Pick.there | apply Pick.seg)) (by rfl) ?_ | refine Sub.seg (by repeat (first | exact PickSeg.here | exact PickSeg.all | apply PickSeg.there | apply PickSeg.seg)) ?_ | exact Sub.seg0 (by repeat (first | exact PickSeg.here | exact PickSeg.all | apply PickSeg.there | apply PickSeg.seg)) | apply Sub.assoc))), ?_⟩
              refine kt_one ?_
              refine kl_k rfl rfl (n_call Tryd.call99 (w_spec_WayTimes hv123) ?_)
              rintro _ _ ⟨rfl, rfl⟩
              refine ⟨.inl (by (repeat (first | exact Sub.refl _ | exact Sub.nil _ | refine Sub.chunk (by repeat (first | exact Pick.here | apply Pick.there | apply Pick.seg)) (by rfl) ?_ | refine Sub.seg (by repeat (first | exact PickSeg.here | exact PickSeg.all | apply PickSeg.there | apply PickSeg.seg)) ?_ | exact Sub.seg0 (by repeat (first | exact PickSeg.here | exact PickSeg.all | apply PickSeg.there | apply PickSeg.seg)) | apply Sub.assoc))), ?_⟩
              refine kt_one ?_
              refine kl_k rfl rfl (n_call Tryd.call78 (w_spec_WayAdd hv126) ?_)
              rintro _ _ ⟨rfl, rfl⟩
              refine ⟨.inl (by (repeat (first | exact Sub.refl _ | exact Sub.nil _ | refine Sub.chunk (by repeat (first | exact Pick.here | apply Pick.there | apply Pick.seg)) (by rfl) ?_ | refine Sub.seg (by repeat (first | exact PickSeg.here | exact PickSeg.all | apply PickSeg.there | apply PickSeg.seg)) ?_ | exact Sub.seg0 (by repeat (first | exact PickSeg.here | exact PickSeg.all | apply PickSeg.there | apply PickSeg.seg)) | apply Sub.assoc))), ?_⟩
              refine kt_one ?_
              refine kl_k rfl rfl (s_B (e' := [.int .i64 v127.e, .int .i64 v127.n, .int .i64 v127.u]) Tryd.sizeOf37 ?_)
              refine ⟨.inl (by (repeat (first | exact Sub.refl _ | exact Sub.nil _ | refine Sub.chunk (by repeat (first | exact Pick.here | apply Pick.there | apply Pick.seg)) (by rfl) ?_ | refine Sub.seg (by repeat (first | exact PickSeg.here | exact PickSeg.all | apply PickSeg.there | apply PickSeg.seg)) ?_ | exact Sub.seg0 (by repeat (first | exact PickSeg.here | exact PickSeg.all | apply PickSeg.there | apply PickSeg.seg)) | apply Sub.assoc))), ?_⟩
              refine kt_nil ?_
              refine kn_then ?_
              exact ⟨p16_129, hd_mk trivial⟩
          · intro p16_129 _
            refine kn_then ?_
            refine kwp_seq ?_
            refine kwp_seq ?_
            refine kwp_cutE (inv := [(0, .pointer (some r0p)), (1, .int .i64 n0), (4, .pointer (some p4_2)), (5, .pointer (some p5_7)), (9, .bool (v77 == 0)), (10, .int .i64 k89), (11, .pointer (some p11_110)), (16, .pointer (some p16_129))]) (fun (z : Bool) (y : Unit) => [(111, .bool z)]) (fun (z : Bool) (y : Unit) => [⟨.pointer (some r0p), 2, [[.slice r00a r0.b.length r00c, .int .i64 v108]]⟩, ⟨.pointer (some p4_2), 2, [[.int .i64 0, .slice none 0 0]]⟩, ⟨.slice none 0 0, 5, ([] : List Leg).map encLeg⟩, ⟨.pointer (some p5_7), 2, [[.int .i64 (w64 (2 + v4)), .slice legs91a legs91.length legs91c]]⟩, ⟨.slice legs91a (legs91.length) legs91c, 5, legs91.map encLeg⟩, ⟨.pointer (some p11_110), 5, [[.int .i64 v107.f, .int .i64 v107.t, .int .i64 v107.e, .int .i64 v107.n, .int .i64 v107.u]]⟩, ⟨.pointer (some p16_129), 3, [[.int .i64 v127.e, .int .i64 v127.n, .int .i64 v127.u]]⟩]) (fun _ _ => True) h104 ?_ ?_
            · intro t134 h132
              refine kwp_region ?_
              refine kd (v_mv) ?_
              refine kd (v_mv) ?_
              refine kops_split 96 rfl (fun hb135 => ?_) (fun hb135 => ?_)
              ·
                replace h132 := e_t h132 hb135
                refine kgd hb135 (v_mv) ?_
                refine kd (v_pt hb135) ?_
                refine kd (v_mv) ?_
                refine kops_split 99 rfl (fun hb136 => ?_) (fun hb136 => ?_)
                ·
                  replace h132 := e_t h132 hb136
                  refine kgd hb136 (v_mv) ?_
                  refine kd (v_pt hb136) ?_
                  refine kd (v_mv) ?_
                  refine kops_split 102 rfl (fun hb137 => ?_) (fun hb137 => ?_)
                  ·
                    replace h132 := e_t h132 hb137
                    refine kgd hb137 (v_fb fa_37_0) ?_
                    refine kgd hb137 (v_ldb Tryd.isAgg3) ?_
                    obtain ⟨v139, hv138, h132⟩ := e_bind h132
                    refine kgk hb137 (n_call Tryd.call88 (w_spec_l1In hv138) ?_)
                    rintro _ _ ⟨rfl, rfl⟩
                    refine kd (v_pt hb137) ?_
                    refine kd (v_mv) ?_
                    refine kops_split 107 rfl (fun hb141 => ?_) (fun hb141 => ?_)
                    ·
                      replace h132 := e_t h132 hb141
                      refine kgd hb141 (v_fb fa_37_1) ?_
                      refine kgd hb141 (v_ldb Tryd.isAgg3) ?_
                      obtain ⟨v143, hv142, h132⟩ := e_bind h132
                      refine kgk hb141 (n_call Tryd.call88 (w_spec_l1In hv142) ?_)
                      rintro _ _ ⟨rfl, rfl⟩
                      refine kd (v_pt hb141) ?_
                      refine kops_nil ?_
                      refine kn_then ?_
                      obtain rfl := e_some h132
                      exact ⟨(), hd_mk trivial⟩
                    ·
                      replace h132 := e_f h132 hb141
                      refine kskip hb141 ?_
                      refine kskip hb141 ?_
                      refine kskip hb141 ?_
                      refine kd (v_pf hb141) ?_
                      refine kops_nil ?_
                      refine kn_then ?_
                      obtain rfl := e_some h132
                      exact ⟨(), hd_mk trivial⟩
                  ·
                    replace h132 := e_f h132 hb137
                    refine kskip hb137 ?_
                    refine kskip hb137 ?_
                    refine kskip hb137 ?_
                    refine kd (v_pf hb137) ?_
                    refine kd (v_mv) ?_
                    refine kskip rfl ?_
                    refine kskip rfl ?_
                    refine kskip rfl ?_
                    refine kd (v_pf rfl) ?_
                    refine kops_nil ?_
                    refine kn_then ?_
                    obtain rfl := e_some h132
                    exact ⟨(), hd_mk trivial⟩
                ·
                  replace h132 := e_f h132 hb136
                  refine kskip hb136 ?_
                  refine kd (v_pf hb136) ?_
                  refine kd (v_mv) ?_
                  refine kskip rfl ?_
                  refine kskip rfl ?_
                  refine kskip rfl ?_
                  refine kd (v_pf rfl) ?_
                  refine kd (v_mv) ?_
                  refine kskip rfl ?_
                  refine kskip rfl ?_
                  refine kskip rfl ?_
                  refine kd (v_pf rfl) ?_
                  refine kops_nil ?_
                  refine kn_then ?_
                  obtain rfl := e_some h132
                  exact ⟨(), hd_mk trivial⟩
              ·
                replace h132 := e_f h132 hb135
                refine kskip hb135 ?_
                refine kd (v_pf hb135) ?_
                refine kd (v_mv) ?_
                refine kskip rfl ?_
                refine kd (v_pf rfl) ?_
                refine kd (v_mv) ?_
                refine kskip rfl ?_
                refine kskip rfl ?_
                refine kskip rfl ?_
                refine kd (v_pf rfl) ?_
                refine kd (v_mv) ?_
                refine kskip rfl ?_
                refine kskip rfl ?_
                refine kskip rfl ?_
                refine kd (v_pf rfl) ?_
                refine kops_nil ?_
                refine kn_then ?_
                obtain rfl := e_some h132
                exact ⟨(), hd_mk trivial⟩
            · intro x131 y146 _ h147
              refine kn_then ?_
              refine kwp_cutE (inv := [(0, .pointer (some r0p)), (1, .int .i64 n0), (4, .pointer (some p4_2)), (5, .pointer (some p5_7)), (9, .bool (v77 == 0)), (10, .int .i64 k89), (11, .pointer (some p11_110))]) (fun (z : Int × Int × Int) (y : Unit) => []) (fun (z : Int × Int × Int) (y : Unit) => [⟨.pointer (some p11_110), 5, [[.int .i64 v107.f, .int .i64 v107.t, .int .i64 z.1, .int .i64 z.2.1, .int .i64 z.2.2]]⟩, ⟨.pointer (some r0p), 2, [[.slice r00a r0.b.length r00c, .int .i64 v108]]⟩, ⟨.pointer (some p4_2), 2, [[.int .i64 0, .slice none 0 0]]⟩, ⟨.slice none 0 0, 5, ([] : List Leg).map encLeg⟩, ⟨.pointer (some p5_7), 2, [[.int .i64 (w64 (2 + v4)), .slice legs91a legs91.length legs91c]]⟩, ⟨.slice legs91a (legs91.length) legs91c, 5, legs91.map encLeg⟩]) (fun _ _ => True) h147 ?_ ?_
              · intro t153 h151
                refine kwp_cond rfl (fun hc154 => ?_) (fun hc154 => ?_)
                ·
                  replace h151 := e_t h151 hc154
                  refine kwp_region ?_
                  refine kd (v_fb fa_48_0) ?_
                  refine kd (v_ldb Tryd.isAgg3) ?_
                  refine kd (v_fb fa_48_1) ?_
                  refine kd (v_ldb Tryd.isAgg3) ?_
                  refine kd (v_fb fa_37_0) ?_
                  refine kd (v_ldb Tryd.isAgg3) ?_
                  refine kd (v_fb fa_37_1) ?_
                  refine kd (v_ldb Tryd.isAgg3) ?_
                  refine kd (v_fb fa_37_2) ?_
                  refine kd (v_ldb Tryd.isAgg3) ?_
                  refine kd (v_bd [(0, _), (1, _), (2, _), (3, _), (4, _)] [_, _, _, _, _] Tryd.zeroValue48 Tryd.runUnderlying48 pl_48) ?_
                  refine kk (s_B (e' := [.int .i64 v107.f, .int .i64 v107.t, .int .i64 v127.e, .int .i64 v127.n, .int .i64 v127.u]) Tryd.sizeOf48 ?_)
                  refine kops_nil ?_
                  refine kn_then ?_
                  obtain rfl := e_some h151
                  exact ⟨(), hd_mk trivial⟩
                ·
                  replace h151 := e_f h151 hc154
                  refine kwp_skip ?_
                  refine kn_then ?_
                  obtain rfl := e_some h151
                  exact ⟨(), hd_mk trivial⟩
              · intro z155 y156 _ h157
                obtain ⟨e148, n149, u150⟩ := z155
                refine kn_then ?_
                refine kwp_seq ?_
                refine kwp_region ?_
                refine kd (v_fb fa_25_0) ?_
                refine kd (v_ldb Tryd.isAgg3) ?_
                refine kd (v_ldB Tryd.isAgg48 Tryd.sizeOf48) ?_
                obtain ⟨v159, hv158, h157⟩ := e_bind h157
                refine kk (n_call Tryd.call87 (w_spec_LegValid hv158) ?_)
                rintro _ _ ⟨rfl, rfl⟩
                refine kops_nil ?_
                refine kn_then ?_
                refine kwp_cond rfl (fun hc161 => ?_) (fun hc161 => ?_)
                ·
                  replace h157 := e_t h157 hc161
                  refine kwp_region ?_
                  refine kd (v_fb fa_25_1) ?_
                  refine kd (v_ldb Tryd.isAgg23) ?_
                  refine kd (v_ldB Tryd.isAgg48 Tryd.sizeOf48) ?_
                  refine kk (n_lit (enc := encLeg) [_] ([(⟨v107.f, v107.t, e148, n149, u150⟩ : Leg)] : List Leg) Tryd.runUnderlying23 Tryd.sizeOf48 Tryd.zeroValue48 (fun a162 => ?_))
                  obtain ⟨hz163, h157⟩ := e_need h157
                  refine kk (n_app (enc := encLeg) ok_encLeg hz163 Tryd.underlying23 Tryd.type48 (by decide) (fun a164 c165 => ?_))
                  refine kd (v_fb fa_25_1) ?_
                  refine kk (s_b (e' := [.int .i64 (w64 (2 + v4)), .slice a164 ((legs91 ++ ([(⟨v107.f, v107.t, e148, n149, u150⟩ : Leg)] : List Leg)).length) c165]) Tryd.sizeOf23 ?_)
                  refine kops_nil ?_
                  refine kn_block ?_
                  refine kn_then ?_
                  refine kwp_region ?_
                  refine kd (v_mv) ?_
                  refine kd (v_sub) ?_
                  refine kd (v_as) ?_
                  refine kops_nil ?_
                  refine kn_then ?_
                  obtain rfl := e_some h157
                  exact ⟨_, (a164, (legs91 ++ ([(⟨v107.f, v107.t, e148, n149, u150⟩ : Leg)] : List Leg)).length, c165), rfl, hd_mk trivial⟩
                ·
                  replace h157 := e_f h157 hc161
                  refine kwp_skip ?_
                  refine kn_block ?_
                  refine kn_then ?_
                  refine kwp_region ?_
                  refine kd (v_mv) ?_
                  refine kd (v_sub) ?_
                  refine kd (v_as) ?_
                  refine kops_nil ?_
                  refine kn_then ?_
                  obtain rfl := e_some h157
                  exact ⟨_, (legs91a, legs91.length, legs91c), rfl, hd_mk trivial⟩
        ·
          replace h104 := e_f h104 hc105
          refine kwp_exit ?_
          refine ke_then ?_
          obtain rfl := e_some h104
          refine k_out ?_ rfl
          rintro rfl
          refine ke_block ?_
          exact ⟨(legs91a, legs91.length, legs91c), hd_mk trivial⟩
    · intro z166 y167 _ h168
      obtain ⟨p84, legs85⟩ := z166
      obtain ⟨legs85a, legs85n, legs85c⟩ := y167
      refine k_len (c := legs85c) (fun hl169 => ?_)
      subst hl169
      refine kwp_seq ?_
      refine kwp_seq ?_
      refine kwp_region ?_
      refine kd (v_mv) ?_
      refine kd (v_mv) ?_
      obtain ⟨⟨v171, v172⟩, hv170, h168⟩ := e_bind h168
      refine kk (n_call Tryd.call104 (w_spec_l20Rd_odd r0p r00a r0.b.length r00c hv170) ?_)
      rintro _ _ ⟨rfl, rfl⟩
      refine kops_nil ?_
      refine kn_then ?_
      refine kwp_cond rfl (fun hc174 => ?_) (fun hc174 => ?_)
      ·
        replace h168 := e_t h168 hc174
        refine kwp_seq ?_
        refine kwp_region ?_
        refine kd (v_mv) ?_
        obtain ⟨⟨v176, v177⟩, hv175, h168⟩ := e_bind h168
        refine kk (n_call Tryd.call70 (w_spec_l20Rd_pick r0p r00a r0.b.length r00c hv175) ?_)
        rintro _ _ ⟨rfl, rfl⟩
        refine kops_nil ?_
        refine kn_then ?_
        refine kwp_block ?_
        refine kwp_seq ?_
        refine kwp_region ?_
        refine kd (v_cmp) ?_
        refine kd (v_as) ?_
        refine kops_nil ?_
        refine kn_then ?_
        refine kwp_cond rfl (fun hc179 => ?_) (fun hc179 => ?_)
        ·
          replace h168 := e_t h168 hc179
          refine kwp_region ?_
          refine kk (n_lit (enc := encI) [_, _] ([0, 7] : List Int) Tryd.runUnderlying26 Tryd.sizeOf3 Tryd.zeroValue3 (fun a180 => ?_))
          refine kd (v_mv) ?_
          obtain ⟨⟨v182, v183⟩, hv181, h168⟩ := e_bind h168
          refine kk (n_call Tryd.call70 (w_spec_l20Rd_pick r0p r00a r0.b.length r00c hv181) ?_)
          rintro _ _ ⟨rfl, rfl⟩
          obtain ⟨j185, ej185, nj185, h168⟩ := e_idx h168
          refine kd (v_ia ej185 nj185 Tryd.runUnderlying26 Tryd.sizeOf3) ?_
          refine kd (v_ldf nj185 Tryd.isAgg3) ?_
          refine kd (v_fb fa_25_0) ?_
          refine kk (s_b (e' := [.int .i64 (gx ([0, 7] : List Int) j185), .slice legs85a legs85.length legs85c]) Tryd.sizeOf3 ?_)
          refine kops_nil ?_
          refine kn_block ?_
          refine kn_then ?_
          refine kwp_seq ?_
          refine kwp_region ?_
          refine kd (v_ldB Tryd.isAgg25 Tryd.sizeOf25) ?_
          refine kk (s_B (e' := [.int .i64 (gx ([0, 7] : List Int) j185), .slice legs85a legs85.length legs85c]) Tryd.sizeOf25 ?_)
          refine kops_nil ?_
          refine kn_then ?_
          refine kwp_ret ?_
          obtain rfl := e_some h168
          refine rc Tryd.isAgg25 Tryd.sizeOf25 [⟨.slice legs85a (legs85.length) legs85c, 5, legs85.map encLeg⟩, ⟨.pointer (some r0p), 2, [[.slice r00a r0.b.length r00c, .int .i64 v183]]⟩] ?_
          exact ⟨legs85a, legs85c, rfl, rfl⟩
        ·
          replace h168 := e_f h168 hc179
          refine kwp_seq ?_
          refine kwp_region ?_
          refine kd (v_cmp) ?_
          refine kd (v_as) ?_
          refine kops_nil ?_
          refine kn_then ?_
          refine kwp_cond rfl (fun hc186 => ?_) (fun hc186 => ?_)
          ·
            replace h168 := e_t h168 hc186
            obtain ⟨⟨v188, v189⟩, hv187, h168⟩ := e_bind h168
            obtain ⟨hz192, h168⟩ := e_need h168
            refine kwp_tree (.quiet 0 (.quiet 1 (.quiet 2 (.quiet 3 (.quiet 4 (.one 5 (.one 6 (.one 7 (.quiet 8 (.one 9 .stop)))))))))) [9] [⟨.pointer (some p5_7), 2, [[.int .i64 (w64 (2 + v4)), .slice legs85a legs85.length legs85c]]⟩] drawMixed (by kernel_rfl) nopan (by (repeat (first | exact Sub.refl _ | exact Sub.nil _ | refine Sub.chunk (by repeat (first | exact Pick.here | apply Pick.there | apply Pick.seg)) (by rfl) ?_ | refine Sub.seg (by repeat (first | exact PickSeg.here | exact PickSeg.all | apply PickSeg.there | apply PickSeg.seg)) ?_ | exact Sub.seg0 (by repeat (first | exact PickSeg.here | exact PickSeg.all | apply PickSeg.there | apply PickSeg.seg)) | apply Sub.assoc))) ?_
            refine kt_d rfl rfl rfl (v_fb fa_25_1) ?_
            refine kt_d rfl rfl rfl (v_ldb Tryd.isAgg23) ?_
            refine kt_d rfl rfl rfl (v_mv) ?_
            refine kt_d rfl rfl rfl (v_fb fa_25_0) ?_
            refine kt_d rfl rfl rfl (v_ldb Tryd.isAgg3) ?_
            refine kt_one ?_
            refine kl_k rfl rfl (n_call Tryd.call113 (w_spec_l20Leg r0p r00a r0.b.length r00c hv187) ?_)
            rintro _ _ ⟨rfl, rfl⟩
            refine ⟨.inl (by (repeat (first | exact Sub.refl _ | exact Sub.nil _ | refine Sub.chunk (by repeat (first | exact Pick.here | apply Pick.there | apply Pick.seg)) (by rfl) ?_ | refine Sub.seg (by repeat (first | exact PickSeg.here | exact PickSeg.all | apply PickSeg.there | apply PickSeg.seg)) ?_ | exact Sub.seg0 (by repeat (first | exact PickSeg.here | exact PickSeg.all | apply PickSeg.there | apply PickSeg.seg)) | apply Sub.assoc))), ?_⟩
            refine kt_one ?_
            refine kl_k rfl rfl (n_lit (enc := encLeg) [_] ([v188] : List Leg) Tryd.runUnderlying23 Tryd.sizeOf48 Tryd.zeroValue48 (fun a191 => ?_))
            refine ⟨.inl (by (repeat (first | exact Sub.refl _ | exact Sub.nil _ | refine Sub.chunk (by repeat (first | exact Pick.here | apply Pick.there | apply Pick.seg)) (by rfl) ?_ | refine Sub.seg (by repeat (first | exact PickSeg.here | exact PickSeg.all | apply PickSeg.there | apply PickSeg.seg)) ?_ | exact Sub.seg0 (by repeat (first | exact PickSeg.here | exact PickSeg.all | apply PickSeg.there | apply PickSeg.seg)) | apply Sub.assoc))), ?_⟩
            refine kt_one ?_
            refine kl_k rfl rfl (n_app (enc := encLeg) ok_encLeg hz192 Tryd.underlying23 Tryd.type48 (by decide) (fun a193 c194 => ?_))
            refine ⟨.inl (by (repeat (first | exact Sub.refl _ | exact Sub.nil _ | refine Sub.chunk (by repeat (first | exact Pick.here | apply Pick.there | apply Pick.seg)) (by rfl) ?_ | refine Sub.seg (by repeat (first | exact PickSeg.here | exact PickSeg.all | apply PickSeg.there | apply PickSeg.seg)) ?_ | exact Sub.seg0 (by repeat (first | exact PickSeg.here | exact PickSeg.all | apply PickSeg.there | apply PickSeg.seg)) | apply Sub.assoc))), ?_⟩
            refine kt_d rfl rfl rfl (v_fb fa_25_1) ?_
            refine kt_one ?_
            refine kl_k rfl rfl (s_b (e' := [.int .i64 (w64 (2 + v4)), .slice a193 ((legs85 ++ ([v188] : List Leg)).length) c194]) Tryd.sizeOf23 ?_)
            refine ⟨.inr ⟨by decide, rfl⟩, ?_⟩
            refine kt_nil ?_
            refine kn_block ?_
            refine kn_then ?_
            refine kwp_seq ?_
            refine kwp_region ?_
            refine kd (v_ldB Tryd.isAgg25 Tryd.sizeOf25) ?_
            refine kk (s_B (e' := [.int .i64 (w64 (2 + v4)), .slice a193 ((legs85 ++ ([v188] : List Leg)).length) c194]) Tryd.sizeOf25 ?_)
            refine kops_nil ?_
            refine kn_then ?_
            refine kwp_ret ?_
            obtain rfl := e_some h168
            refine rc Tryd.isAgg25 Tryd.sizeOf25 [⟨.slice a193 ((legs85 ++ ([v188] : List Leg)).length) c194, 5, (legs85 ++ ([v188] : List Leg)).map encLeg⟩, ⟨.pointer (some r0p), 2, [[.slice r00a r0.b.length r00c, .int .i64 v189]]⟩] ?_
            exact ⟨a193, c194, rfl, rfl⟩
          ·
            replace h168 := e_f h168 hc186
            refine kwp_region ?_
            obtain ⟨j195, ej195, nj195, h168⟩ := e_sized h168
            refine kk (n_make (enc := encLeg) (⟨0, 0, 0, 0, 0⟩ : Leg) ej195 nj195 Tryd.underlying23 Tryd.type48 (by decide) (fun a196 => ?_))
            refine kd (v_fb fa_25_1) ?_
            refine kk (s_b (e' := [.int .i64 (w64 (2 + v4)), .slice (some a196) j195 j195]) Tryd.sizeOf23 ?_)
            refine kops_nil ?_
            refine kn_block ?_
            refine kn_then ?_
            refine kwp_seq ?_
            refine kwp_region ?_
            refine kd (v_ldB Tryd.isAgg25 Tryd.sizeOf25) ?_
            refine kk (s_B (e' := [.int .i64 (w64 (2 + v4)), .slice (some a196) j195 j195]) Tryd.sizeOf25 ?_)
            refine kops_nil ?_
            refine kn_then ?_
            refine k_len (c := j195) (fun hl197 => ?_)
            refine kwp_ret ?_
            obtain rfl := e_some h168
            refine rc Tryd.isAgg25 Tryd.sizeOf25 [⟨.slice (some a196) j195 j195, 5, (List.replicate j195 (⟨0, 0, 0, 0, 0⟩ : Leg)).map encLeg⟩, ⟨.pointer (some r0p), 2, [[.slice r00a r0.b.length r00c, .int .i64 v177]]⟩] ?_
            exact ⟨some a196, j195, by first | rfl | (rw [← hl197] <;> rfl) | ((try dsimp only); rw [← hl197] <;> rfl) | (simp; done), by first | rfl | (rw [← hl197] <;> rfl) | ((try dsimp only); rw [← hl197] <;> rfl) | (simp; done)⟩
      ·
        replace h168 := e_f h168 hc174
        refine kwp_skip ?_
        refine kn_then ?_
        refine kwp_seq ?_
        refine kwp_region ?_
        refine kd (v_ldB Tryd.isAgg25 Tryd.sizeOf25) ?_
        refine kk (s_B (e' := [.int .i64 (w64 (2 + v4)), .slice legs85a legs85.length legs85c]) Tryd.sizeOf25 ?_)
        refine kops_nil ?_
        refine kn_then ?_
        refine kwp_ret ?_
        obtain rfl := e_some h168
        refine rc Tryd.isAgg25 Tryd.sizeOf25 [⟨.slice legs85a (legs85.length) legs85c, 5, legs85.map encLeg⟩, ⟨.pointer (some r0p), 2, [[.slice r00a r0.b.length r00c, .int .i64 v172]]⟩] ?_
        exact ⟨legs85a, legs85c, rfl, rfl⟩

set_option maxRecDepth 20000 in
set_option maxHeartbeats 2000000 in
theorem w_spec_l20Linked (r0p : Addr) (r00a : Option Addr) (r00n : Nat) (r00c : Nat) {r0 : Rd} {n0 : Int} {r : Survey × Int} (h : p_spec_l20Linked r0 n0 = some r) :
    Triple Tryd.prog 69 [.pointer (some r0p), .int .i64 n0] [⟨.slice r00a r00n r00c, 1, r0.b.map encB⟩] [⟨.pointer (some r0p), 2, [[.slice r00a r00n r00c, .int .i64 r0.p]]⟩] (fun v ch => ∃ (w01a : Option Addr) (w01c : Nat), v = .agg #[.int .i64 r.1.st, .slice w01a r.1.legs.length w01c] ∧ ch = [⟨.slice w01a r.1.legs.length w01c, 5, r.1.legs.map encLeg⟩, ⟨.pointer (some r0p), 2, [[.slice r00a r00n r00c, .int .i64 r.2]]⟩]) := by
  refine triple_start 91 Tryd.func69 Tryd.ntmps69 rfl rfl (fun w0 => ?_)
  refine k_len (c := r00c) (fun hl1 => ?_)
  subst hl1
  unfold p_spec_l20Linked at h
  refine kwp_seq ?_
  refine kwp_region ?_
  refine kops_nilchunk 5 (by decide) ?_
  refine kk (n_alloc (e := [.int .i64 0, .slice none 0 0]) 2 Tryd.zeroValue25 (fun p4_2 => ?_))
  refine kops_nil ?_
  refine kn_then ?_
  refine kwp_seq ?_
  refine kwp_region ?_
  refine kd (v_mv) ?_
  refine kd (v_mv) ?_
  obtain ⟨⟨v4, v5⟩, hv3, h⟩ := e_bind h
  refine kk (n_call Tryd.call110 (w_spec_l20Survey r0p r00a r0.b.length r00c hv3) ?_)
  rintro _ _ ⟨q61a, q61c, rfl, rfl⟩
  refine kops_nilchunk 5 (by decide) ?_
  refine kk (n_alloc (e := [.int .i64 0, .slice none 0 0]) 2 Tryd.zeroValue25 (fun p5_7 => ?_))
  refine kk (s_B (e' := [.int .i64 v4.st, .slice q61a v4.legs.length q61c]) Tryd.sizeOf25 ?_)
  refine kops_nil ?_
  refine kn_then ?_
  refine kwp_seq ?_
  refine kwp_seq ?_
  refine kwp_cutE (inv := [(0, .pointer (some r0p)), (4, .pointer (some p4_2)), (5, .pointer (some p5_7))]) (fun (z : Bool × Int) (y : Unit) => [(21, .bool z.1)]) (fun (z : Bool × Int) (y : Unit) => [⟨.pointer (some r0p), 2, [[.slice r00a r0.b.length r00c, .int .i64 z.2]]⟩, ⟨.pointer (some p4_2), 2, [[.int .i64 0, .slice none 0 0]]⟩, ⟨.slice none 0 0, 5, ([] : List Leg).map encLeg⟩, ⟨.pointer (some p5_7), 2, [[.int .i64 v4.st, .slice q61a v4.legs.length q61c]]⟩, ⟨.slice q61a v4.legs.length q61c, 5, v4.legs.map encLeg⟩]) (fun _ _ => True) h ?_ ?_
  · intro t12 h10
    refine kwp_region ?_
    refine kd (v_mv) ?_
    obtain ⟨⟨v14, v15⟩, hv13, h10⟩ := e_bind h10
    refine kk (n_call Tryd.call70 (w_spec_l20Rd_pick r0p r00a r0.b.length r00c hv13) ?_)
    rintro _ _ ⟨rfl, rfl⟩
    refine kd (v_cmp) ?_
    refine kd (v_mv) ?_
    refine kops_split 17 rfl (fun hb17 => ?_) (fun hb17 => ?_)
    ·
      replace h10 := e_t h10 hb17
      refine kgd hb17 (v_fb fa_25_0) ?_
      refine kgd hb17 (v_ldb Tryd.isAgg3) ?_
      obtain ⟨v19, hv18, h10⟩ := e_bind h10
      refine kgk hb17 (n_call Tryd.call88 (w_spec_l1In hv18) ?_)
      rintro _ _ ⟨rfl, rfl⟩
      refine kd (v_pt hb17) ?_
      refine kops_nil ?_
      refine kn_then ?_
      obtain rfl := e_some h10
      exact ⟨(), hd_mk trivial⟩
    ·
      replace h10 := e_f h10 hb17
      refine kskip hb17 ?_
      refine kskip hb17 ?_
      refine kskip hb17 ?_
      refine kd (v_pf hb17) ?_
      refine kops_nil ?_
      refine kn_then ?_
      obtain rfl := e_some h10
      exact ⟨(), hd_mk trivial⟩
  · intro z21 y22 _ h23
    obtain ⟨x8, p9⟩ := z21
    refine kn_then ?_
    refine kwp_cond rfl (fun hc24 => ?_) (fun hc24 => ?_)
    ·
      replace h23 := e_t h23 hc24
      refine kwp_seq ?_
      refine kwp_region ?_
      refine kd (v_fb fa_25_0) ?_
      refine kd (v_ldb Tryd.isAgg3) ?_
      refine kd (v_min) ?_
      refine kd (v_fb fa_25_0) ?_
      refine kk (s_b (e' := [.int .i64 (min v4.st 5), .slice q61a v4.legs.length q61c]) Tryd.sizeOf3 ?_)
      refine kops_nil ?_
      refine kn_then ?_
      refine kwp_seq ?_
      refine kwp_region ?_
      refine kk (n_lit (enc := encLeg) [] ([] : List Leg) Tryd.runUnderlying23 Tryd.sizeOf48 Tryd.zeroValue48 (fun a25 => ?_))
      refine kd (v_as) ?_
      refine kops_nil ?_
      refine kn_then ?_
      refine kwp_seq ?_
      refine kwp_seq ?_
      refine kwp_region ?_
      refine kd (v_as) ?_
      refine kops_nil ?_
      refine kn_then ?_
      refine kwp_cutE (inv := [(0, .pointer (some r0p)), (4, .pointer (some p4_2)), (5, .pointer (some p5_7))]) (fun (z : List Leg) (y : Option Addr × Nat × Nat) => [(6, .slice y.1 y.2.1 y.2.2)]) (fun (z : List Leg) (y : Option Addr × Nat × Nat) => [⟨.slice y.1 y.2.1 y.2.2, 5, z.map encLeg⟩, ⟨.pointer (some r0p), 2, [[.slice r00a r0.b.length r00c, .int .i64 p9]]⟩, ⟨.pointer (some p4_2), 2, [[.int .i64 0, .slice none 0 0]]⟩, ⟨.slice none 0 0, 5, ([] : List Leg).map encLeg⟩, ⟨.pointer (some p5_7), 2, [[.int .i64 (min v4.st 5), .slice q61a v4.legs.length q61c]]⟩, ⟨.slice q61a v4.legs.length q61c, 5, v4.legs.map encLeg⟩]) (fun _ _ => True) h23 ?_ ?_
      · intro t29 h27
        refine kwp_block ?_
        refine kwp_loopE (inv := [(0, .pointer (some r0p)), (4, .pointer (some p4_2)), (5, .pointer (some p5_7))]) (fun (z : List Leg × Int) (y : Option Addr × Nat × Nat) => [(6, .slice y.1 y.2.1 y.2.2), (7, .int .i64 z.2)]) (fun (z : List Leg × Int) (y : Option Addr × Nat × Nat) => [⟨.slice y.1 y.2.1 y.2.2, 5, z.1.map encLeg⟩, ⟨.pointer (some r0p), 2, [[.slice r00a r0.b.length r00c, .int .i64 p9]]⟩, ⟨.pointer (some p4_2), 2, [[.int .i64 0, .slice none 0 0]]⟩, ⟨.slice none 0 0, 5, ([] : List Leg).map encLeg⟩, ⟨.pointer (some p5_7), 2, [[.int .i64 (min v4.st 5), .slice q61a v4.legs.length q61c]]⟩, ⟨.slice q61a v4.legs.length q61c, 5, v4.legs.map encLeg⟩]) (fun _ _ => True) h27 ⟨(some a25, 0, 0), hd_mk trivial⟩ ?_
        intro z34 y35 b32 _ h33
        obtain ⟨legs30, k31⟩ := z34
        obtain ⟨legs30a, legs30n, legs30c⟩ := y35
        refine k_len (c := legs30c) (fun hl36 => ?_)
        subst hl36
        unfold p_spec_l20Linked_L0 at h33
        refine kwp_seq ?_
        refine kwp_seq ?_
        refine kwp_region ?_
        refine kd (v_mv) ?_
        refine kd (v_fb fa_25_1) ?_
        refine kd (v_ldb Tryd.isAgg23) ?_
        refine kd (v_len Tryd.runUnderlying23) ?_
        refine kd (v_cmp) ?_
        refine kops_nil ?_
        refine kn_then ?_
        refine kwp_cond rfl (fun hc37 => ?_) (fun hc37 => ?_)
        ·
          replace h33 := e_t h33 hc37
          refine kwp_skip ?_
          refine kn_then ?_
          refine kwp_seq ?_
          refine kwp_block ?_
          refine kwp_seq ?_
          obtain ⟨j38, ej38, nj38, h33⟩ := e_idx h33
          obtain ⟨v40, hv39, h33⟩ := e_bind h33
          refine kwp_tree (.quiet 0 (.quiet 1 (.quiet 2 (.quiet 3 (.quiet 4 (.quiet 5 (.quiet 6 (.one 7 .stop)))))))) [] [⟨.slice q61a v4.legs.length q61c, 5, v4.legs.map encLeg⟩, ⟨.pointer (some p5_7), 2, [[.int .i64 (min v4.st 5), .slice q61a v4.legs.length q61c]]⟩] drawMixed (by kernel_rfl) nopan (by (repeat (first | exact Sub.refl _ | exact Sub.nil _ | refine Sub.chunk (by repeat (first | exact Pick.here | apply Pick.there | apply Pick.seg)) (by rfl) ?_ | refine Sub.seg (by repeat (first | exact PickSeg.here | exact PickSeg.all | apply PickSeg.there | apply PickSeg.seg)) ?_ | exact Sub.seg0 (by repeat (first | exact PickSeg.here | exact PickSeg.all | apply PickSeg.there | apply PickSeg.seg)) | apply Sub.assoc))) ?_
          refine kt_d rfl rfl rfl (v_fb fa_25_0) ?_
          refine kt_d rfl rfl rfl (v_ldb Tryd.isAgg3) ?_
          refine kt_d rfl rfl rfl (v_fb fa_25_1) ?_
          refine kt_d rfl rfl rfl (v_ldb Tryd.isAgg23) ?_
          refine kt_d rfl rfl rfl (v_mv) ?_
          refine kt_d rfl rfl rfl (v_ia ej38 nj38 Tryd.runUnderlying23 Tryd.sizeOf48) ?_
          refine kt_d rfl rfl rfl (v_lda (e := [_, _, _, _, _]) nj38 Tryd.isAgg48 Tryd.sizeOf48) ?_
          refine kt_one ?_
          refine kl_k rfl rfl (n_call Tryd.call87 (w_spec_LegValid hv39) ?_)
          rintro _ _ ⟨rfl, rfl⟩
          refine ⟨.inl (by (repeat (first | exact Sub.refl _ | exact Sub.nil _ | refine Sub.chunk (by repeat (first | exact Pick.here | apply Pick.there | apply Pick.seg)) (by rfl) ?_ | refine Sub.seg (by repeat (first | exact PickSeg.here | exact PickSeg.all | apply PickSeg.there | apply PickSeg.seg)) ?_ | exact Sub.seg0 (by repeat (first | exact PickSeg.here | exact PickSeg.all | apply PickSeg.there | apply PickSeg.seg)) | apply Sub.assoc))), ?_⟩
          refine kt_nil ?_
          refine kn_then ?_
          refine kwp_cond rfl (fun hc42 => ?_) (fun hc42 => ?_)
          ·
            replace h33 := e_t h33 hc42
            refine kwp_region ?_
            refine kd (v_mv) ?_
            refine kd (v_fb fa_25_1) ?_
            refine kd (v_ldb Tryd.isAgg23) ?_
            refine kd (v_mv) ?_
            refine kd (v_ia ej38 nj38 Tryd.runUnderlying23 Tryd.sizeOf48) ?_
            refine kd (v_lda (e := [_, _, _, _, _]) nj38 Tryd.isAgg48 Tryd.sizeOf48) ?_
            refine kk (n_lit (enc := encLeg) [_] ([gx v4.legs j38] : List Leg) Tryd.runUnderlying23 Tryd.sizeOf48 Tryd.zeroValue48 (fun a43 => ?_))
            obtain ⟨hz44, h33⟩ := e_need h33
            refine kk (n_app (enc := encLeg) ok_encLeg hz44 Tryd.underlying23 Tryd.type48 (by decide) (fun a45 c46 => ?_))
            refine kd (v_as) ?_
            refine kops_nil ?_
            refine kn_block ?_
            refine kn_then ?_
            refine kwp_region ?_
            refine kd (v_mv) ?_
            refine kd (v_add) ?_
            refine kd (v_as) ?_
            refine kops_nil ?_
            refine kn_then ?_
            obtain rfl := e_some h33
            exact ⟨_, (a45, (legs30 ++ ([gx v4.legs j38] : List Leg)).length, c46), rfl, hd_mk trivial⟩
          ·
            replace h33 := e_f h33 hc42
            refine kwp_skip ?_
            refine kn_block ?_
            refine kn_then ?_
            refine kwp_region ?_
            refine kd (v_mv) ?_
            refine kd (v_add) ?_
            refine kd (v_as) ?_
            refine kops_nil ?_
            refine kn_then ?_
            obtain rfl := e_some h33
            exact ⟨_, (legs30a, legs30.length, legs30c), rfl, hd_mk trivial⟩
        ·
          replace h33 := e_f h33 hc37
          refine kwp_exit ?_
          refine ke_then ?_
          obtain rfl := e_some h33
          refine k_out ?_ rfl
          rintro rfl
          refine ke_block ?_
          exact ⟨(legs30a, legs30.length, legs30c), hd_mk trivial⟩
      · intro legs26 y48 _ h49
        obtain ⟨legs26a, legs26n, legs26c⟩ := y48
        refine k_len (c := legs26c) (fun hl50 => ?_)
        subst hl50
        refine kwp_seq ?_
        refine kwp_seq ?_
        refine kwp_region ?_
        refine kd (v_as) ?_
        refine kops_nil ?_
        refine kn_then ?_
        refine kwp_cutE (inv := [(4, .pointer (some p4_2)), (5, .pointer (some p5_7))]) (fun (z : List Leg × Int) (y : Option Addr × Nat × Nat) => [(6, .slice y.1 y.2.1 y.2.2)]) (fun (z : List Leg × Int) (y : Option Addr × Nat × Nat) => [⟨.slice y.1 y.2.1 y.2.2, 5, z.1.map encLeg⟩, ⟨.pointer (some r0p), 2, [[.slice r00a r0.b.length r00c, .int .i64 z.2]]⟩, ⟨.pointer (some p4_2), 2, [[.int .i64 0, .slice none 0 0]]⟩, ⟨.slice none 0 0, 5, ([] : List Leg).map encLeg⟩, ⟨.pointer (some p5_7), 2, [[.int .i64 (min v4.st 5), .slice q61a v4.legs.length q61c]]⟩, ⟨.slice q61a v4.legs.length q61c, 5, v4.legs.map encLeg⟩]) (fun _ _ => True) h49 ?_ ?_
        · intro t55 h53
          refine kwp_block ?_
          refine kwp_loopE (inv := [(0, .pointer (some r0p)), (4, .pointer (some p4_2)), (5, .pointer (some p5_7))]) (fun (z : List Leg × Int × Int) (y : Option Addr × Nat × Nat) => [(6, .slice y.1 y.2.1 y.2.2), (8, .int .i64 z.2.1)]) (fun (z : List Leg × Int × Int) (y : Option Addr × Nat × Nat) => [⟨.pointer (some r0p), 2, [[.slice r00a r0.b.length r00c, .int .i64 z.2.2]]⟩, ⟨.slice y.1 y.2.1 y.2.2, 5, z.1.map encLeg⟩, ⟨.pointer (some p4_2), 2, [[.int .i64 0, .slice none 0 0]]⟩, ⟨.slice none 0 0, 5, ([] : List Leg).map encLeg⟩, ⟨.pointer (some p5_7), 2, [[.int .i64 (min v4.st 5), .slice q61a v4.legs.length q61c]]⟩, ⟨.slice q61a v4.legs.length q61c, 5, v4.legs.map encLeg⟩]) (fun _ _ => True) h53 ⟨(legs26a, legs26.length, legs26c), hd_mk trivial⟩ ?_
          intro z61 y62 b59 _ h60
          obtain ⟨legs56, k57, p58⟩ := z61
          obtain ⟨legs56a, legs56n, legs56c⟩ := y62
          refine k_len (c := legs56c) (fun hl63 => ?_)
          subst hl63
          unfold p_spec_l20Linked_L1 at h60
          refine kwp_seq ?_
          refine kwp_seq ?_
          refine kwp_region ?_
          refine kd (v_mv) ?_
          refine kd (v_fb fa_25_0) ?_
          refine kd (v_ldb Tryd.isAgg3) ?_
          refine kd (v_cmp) ?_
          refine kops_nil ?_
          refine kn_then ?_
          refine kwp_cond rfl (fun hc64 => ?_) (fun hc64 => ?_)
          ·
            replace h60 := e_t h60 hc64
            refine kwp_skip ?_
            refine kn_then ?_
            refine kwp_seq ?_
            refine kwp_block ?_
            refine kwp_seq ?_
            obtain ⟨v66, hv65, h60⟩ := e_bind h60
            obtain ⟨v69, hv68, h60⟩ := e_bind h60
            refine kwp_tree (.quiet 0 (.quiet 1 (.quiet 2 (.quiet 3 (.quiet 4 (.quiet 5 (.one 6 (.one 7 (.quiet 8 .stop))))))))) [] [⟨.pointer (some p5_7), 2, [[.int .i64 (min v4.st 5), .slice q61a v4.legs.length q61c]]⟩] drawMixed (by kernel_rfl) nopan (by (repeat (first | exact Sub.refl _ | exact Sub.nil _ | refine Sub.chunk (by repeat (first | exact Pick.here | apply Pick.there | apply Pick.seg)) (by rfl) ?_ | refine Sub.seg (by repeat (first | exact PickSeg.here | exact PickSeg.all | apply PickSeg.there | apply PickSeg.seg)) ?_ | exact Sub.seg0 (by repeat (first | exact PickSeg.here | exact PickSeg.all | apply PickSeg.there | apply PickSeg.seg)) | apply Sub.assoc))) ?_
            refine kt_d rfl rfl rfl (v_fb fa_25_0) ?_
            refine kt_d rfl rfl rfl (v_ldb Tryd.isAgg3) ?_
            refine kt_d rfl rfl rfl (v_mv) ?_
            refine kt_d rfl rfl rfl (v_bd [(0, _), (1, _)] [_, _] Tryd.zeroValue25 Tryd.runUnderlying25 pl_25) ?_
            refine kt_d rfl rfl rfl (v_mv) ?_
            refine kt_d rfl rfl rfl (v_len Tryd.runUnderlying23) ?_
            refine kt_one ?_
            refine kl_k rfl rfl (n_call Tryd.call112 (w_spec_l1All hv65) ?_)
            rintro _ _ ⟨q67a, q67c, rfl, rfl⟩
            refine ⟨.inl (by (repeat (first | exact Sub.refl _ | exact Sub.nil _ | refine Sub.chunk (by repeat (first | exact Pick.here | apply Pick.there | apply Pick.seg)) (by rfl) ?_ | refine Sub.seg (by repeat (first | exact PickSeg.here | exact PickSeg.all | apply PickSeg.there | apply PickSeg.seg)) ?_ | exact Sub.seg0 (by repeat (first | exact PickSeg.here | exact PickSeg.all | apply PickSeg.there | apply PickSeg.seg)) | apply Sub.assoc))), ?_⟩
            refine kt_one ?_
            refine kl_k rfl rfl (n_call Tryd.call111 (w_spec_l1Parts legs56a legs56.length legs56c q67a v66.length q67c hv68) ?_)
            rintro _ _ ⟨q70a, q70c, rfl, rfl⟩
            refine ⟨.inl (by (repeat (first | exact Sub.refl _ | exact Sub.nil _ | refine Sub.chunk (by repeat (first | exact Pick.here | apply Pick.there | apply Pick.seg)) (by rfl) ?_ | refine Sub.seg (by repeat (first | exact PickSeg.here | exact PickSeg.all | apply PickSeg.there | apply PickSeg.seg)) ?_ | exact Sub.seg0 (by repeat (first | exact PickSeg.here | exact PickSeg.all | apply PickSeg.there | apply PickSeg.seg)) | apply Sub.assoc))), ?_⟩
            refine kt_d rfl rfl rfl (v_as) ?_
            refine kt_nil ?_
            refine kn_then ?_
            refine kwp_seq ?_
            refine kwp_cutE (inv := [(0, .pointer (some r0p)), (4, .pointer (some p4_2)), (5, .pointer (some p5_7)), (6, .slice legs56a legs56.length legs56c), (8, .int .i64 k57)]) (fun (z : Bool) (y : Unit) => [(73, .bool z)]) (fun (z : Bool) (y : Unit) => [⟨.pointer (some r0p), 2, [[.slice r00a r0.b.length r00c, .int .i64 p58]]⟩, ⟨.pointer (some p4_2), 2, [[.int .i64 0, .slice none 0 0]]⟩, ⟨.slice none 0 0, 5, ([] : List Leg).map encLeg⟩, ⟨.pointer (some p5_7), 2, [[.int .i64 (min v4.st 5), .slice q61a v4.legs.length q61c]]⟩, ⟨.slice q61a v4.legs.length q61c, 5, v4.legs.map encLeg⟩, ⟨.slice legs56a (legs56.length) legs56c, 5, legs56.map encLeg⟩]) (fun _ _ => True) h60 ?_ ?_
            · intro t74 h72
              refine kwp_region ?_
              refine kd (v_mv) ?_
              refine kd (v_mv) ?_
              obtain ⟨j75, ej75, nj75, h72⟩ := e_idx h72
              refine kd (v_ia ej75 nj75 Tryd.runUnderlying26 Tryd.sizeOf3) ?_
              refine kd (v_ldf nj75 Tryd.isAgg3) ?_
              refine kd (v_cmp) ?_
              refine kd (v_mv) ?_
              refine kops_split 69 rfl (fun hb76 => ?_) (fun hb76 => ?_)
              ·
                replace h72 := e_t h72 hb76
                refine kgd hb76 (v_mv) ?_
                refine kgd hb76 (v_len Tryd.runUnderlying23) ?_
                refine kgd hb76 (v_cmp) ?_
                refine kd (v_pt hb76) ?_
                refine kops_nil ?_
                refine kn_then ?_
                obtain rfl := e_some h72
                exact ⟨(), hd_mk trivial⟩
              ·
                replace h72 := e_f h72 hb76
                refine kskip hb76 ?_
                refine kskip hb76 ?_
                refine kskip hb76 ?_
                refine kd (v_pf hb76) ?_
                refine kops_nil ?_
                refine kn_then ?_
                obtain rfl := e_some h72
                exact ⟨(), hd_mk trivial⟩
            · intro x71 y78 _ h79
              refine kn_then ?_
              refine kwp_cond rfl (fun hc80 => ?_) (fun hc80 => ?_)
              ·
                replace h79 := e_t h79 hc80
                refine kwp_seq ?_
                refine kwp_region ?_
                refine kd (v_mv) ?_
                refine kd (v_fb fa_25_0) ?_
                refine kd (v_ldb Tryd.isAgg3) ?_
                obtain ⟨⟨v82, v83⟩, hv81, h79⟩ := e_bind h79
                refine kk (n_call Tryd.call113 (w_spec_l20Leg r0p r00a r0.b.length r00c hv81) ?_)
                rintro _ _ ⟨rfl, rfl⟩
                refine kk (n_alloc (e := [.int .i64 0, .int .i64 0, .int .i64 0, .int .i64 0, .int .i64 0]) 5 Tryd.zeroValue48 (fun p10_85 => ?_))
                refine kk (s_B (e' := [.int .i64 v82.f, .int .i64 v82.t, .int .i64 v82.e, .int .i64 v82.n, .int .i64 v82.u]) Tryd.sizeOf48 ?_)
                refine kops_nil ?_
                refine kn_then ?_
                refine kwp_seq ?_
                refine kwp_region ?_
                refine kd (v_mv) ?_
                refine kd (v_mv) ?_
                obtain ⟨⟨v87, v88⟩, hv86, h79⟩ := e_bind h79
                refine kk (n_call Tryd.call70 (w_spec_l20Rd_pick r0p r00a r0.b.length r00c hv86) ?_)
                rintro _ _ ⟨rfl, rfl⟩
                refine kd (v_fb fa_48_0) ?_
                refine kk (s_b (e' := [.int .i64 v87, .int .i64 v82.t, .int .i64 v82.e, .int .i64 v82.n, .int .i64 v82.u]) Tryd.sizeOf3 ?_)
                refine kops_nil ?_
                refine kn_then ?_
                refine kwp_seq ?_
                refine kwp_region ?_
                refine kd (v_mv) ?_
                refine kd (v_fb fa_48_1) ?_
                refine kk (s_b (e' := [.int .i64 v87, .int .i64 k57, .int .i64 v82.e, .int .i64 v82.n, .int .i64 v82.u]) Tryd.sizeOf3 ?_)
                refine kops_nil ?_
                refine kn_then ?_
                refine kwp_region ?_
                refine kd (v_mv) ?_
                refine kd (v_ldB Tryd.isAgg48 Tryd.sizeOf48) ?_
                refine kk (n_lit (enc := encLeg) [_] ([(⟨v87, k57, v82.e, v82.n, v82.u⟩ : Leg)] : List Leg) Tryd.runUnderlying23 Tryd.sizeOf48 Tryd.zeroValue48 (fun a90 => ?_))
                obtain ⟨hz91, h79⟩ := e_need h79
                refine kk (n_app (enc := encLeg) ok_encLeg hz91 Tryd.underlying23 Tryd.type48 (by decide) (fun a92 c93 => ?_))
                refine kd (v_as) ?_
                refine kops_nil ?_
                refine kn_block ?_
                refine kn_then ?_
                refine kwp_region ?_
                refine kd (v_mv) ?_
                refine kd (v_add) ?_
                refine kd (v_as) ?_
                refine kops_nil ?_
                refine kn_then ?_
                obtain rfl := e_some h79
                exact ⟨_, (a92, (legs56 ++ ([(⟨v87, k57, v82.e, v82.n, v82.u⟩ : Leg)] : List Leg)).length, c93), rfl, hd_mk trivial⟩
              ·
                replace h79 := e_f h79 hc80
                refine kwp_skip ?_
                refine kn_block ?_
                refine kn_then ?_
                refine kwp_region ?_
                refine kd (v_mv) ?_
                refine kd (v_add) ?_
                refine kd (v_as) ?_
                refine kops_nil ?_
                refine kn_then ?_
                obtain rfl := e_some h79
                exact ⟨_, (legs56a, legs56.length, legs56c), rfl, hd_mk trivial⟩
          ·
            replace h60 := e_f h60 hc64
            refine kwp_exit ?_
            refine ke_then ?_
            obtain rfl := e_some h60
            refine k_out ?_ rfl
            rintro rfl
            refine ke_block ?_
            exact ⟨(legs56a, legs56.length, legs56c), hd_mk trivial⟩
        · intro z94 y95 _ h96
          obtain ⟨legs51, p52⟩ := z94
          obtain ⟨legs51a, legs51n, legs51c⟩ := y95
          refine k_len (c := legs51c) (fun hl97 => ?_)
          subst hl97
          refine kwp_region ?_
          refine kd (v_mv) ?_
          refine kd (v_fb fa_25_1) ?_
          refine kk (s_b (e' := [.int .i64 (min v4.st 5), .slice legs51a legs51.length legs51c]) Tryd.sizeOf23 ?_)
          refine kops_nil ?_
          refine kn_then ?_
          refine kwp_seq ?_
          refine kwp_region ?_
          refine kd (v_ldB Tryd.isAgg25 Tryd.sizeOf25) ?_
          refine kk (s_B (e' := [.int .i64 (min v4.st 5), .slice legs51a legs51.length legs51c]) Tryd.sizeOf25 ?_)
          refine kops_nil ?_
          refine kn_then ?_
          refine kwp_ret ?_
          obtain rfl := e_some h96
          refine rc Tryd.isAgg25 Tryd.sizeOf25 [⟨.slice legs51a (legs51.length) legs51c, 5, legs51.map encLeg⟩, ⟨.pointer (some r0p), 2, [[.slice r00a r0.b.length r00c, .int .i64 p52]]⟩] ?_
          exact ⟨legs51a, legs51c, rfl, rfl⟩
    ·
      replace h23 := e_f h23 hc24
      refine kwp_skip ?_
      refine kn_then ?_
      refine kwp_seq ?_
      refine kwp_region ?_
      refine kd (v_ldB Tryd.isAgg25 Tryd.sizeOf25) ?_
      refine kk (s_B (e' := [.int .i64 v4.st, .slice q61a v4.legs.length q61c]) Tryd.sizeOf25 ?_)
      refine kops_nil ?_
      refine kn_then ?_
      refine kwp_ret ?_
      obtain rfl := e_some h23
      refine rc Tryd.isAgg25 Tryd.sizeOf25 [⟨.slice q61a v4.legs.length q61c, 5, v4.legs.map encLeg⟩, ⟨.pointer (some r0p), 2, [[.slice r00a r0.b.length r00c, .int .i64 p9]]⟩] ?_
      exact ⟨q61a, q61c, rfl, rfl⟩

end Go.Proofs.YtnibfmofkamjoaaDoor
