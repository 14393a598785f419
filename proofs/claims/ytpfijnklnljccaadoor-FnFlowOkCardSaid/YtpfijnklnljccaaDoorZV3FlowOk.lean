/- What the plain programs return, the functions of the program return; no condition. -/
import Derived.Test.YtpfijnklnljccaaDoorZQ
import Derived.Test.YtpfijnklnljccaaDoorZFa
import Derived.Test.YtpfijnklnljccaaDoorZVbu
import Derived.Test.YtpfijnklnljccaaDoorZVbt
import Derived.Test.YtpfijnklnljccaaDoorZVbf
import Derived.Test.YtpfijnklnljccaaDoorZVbs
namespace Go.Proofs.YtpfijnklnljccaaDoor
open Go
set_option linter.unusedVariables false
set_option linter.unusedSimpArgs false

set_option maxRecDepth 20000 in
theorem w_spec_DrawFlowOk (code0a : Option Addr) (code0n : Nat) (code0c : Nat) {code0 : List UInt8} {r : Mine × Int × Int × Int × List Int} (h : p_spec_DrawFlowOk code0 = some r) :
    Triple Tryd.prog 49 [.slice code0a code0n code0c] [⟨.slice code0a code0n code0c, 1, code0.map encB⟩] [] (fun v ch => ∃ (w01a : Option Addr) (w01c : Nat) (w4a : Option Addr) (w4c : Nat), v = .tuple #[.agg #[.int .i64 r.1.p, .slice w01a r.1.aw.length w01c], .int .i64 r.2.1, .int .i64 r.2.2.1, .int .i64 r.2.2.2.1, .slice w4a r.2.2.2.2.length w4c] ∧ ch = [⟨.slice w01a r.1.aw.length w01c, 3, r.1.aw.map encAirway⟩, ⟨.slice w4a r.2.2.2.2.length w4c, 1, r.2.2.2.2.map encI⟩]) := by
  refine triple_start 15 Tryd.func49 Tryd.ntmps49 rfl rfl (fun w0 => ?_)
  refine k_len (c := code0c) (fun hl1 => ?_)
  subst hl1
  unfold p_spec_DrawFlowOk at h
  refine kwp_seq ?_
  refine kwp_region ?_
  refine kops_nilchunk 3 (by decide) ?_
  refine kk (n_alloc (e := [.int .i64 0, .slice none 0 0]) 2 Tryd.zeroValue32 (fun p2_2 => ?_))
  refine kd (v_as) ?_
  refine kd (v_as) ?_
  refine kd (v_as) ?_
  refine kops_nilchunk 1 (by decide) ?_
  refine kd (v_as) ?_
  refine kops_nil ?_
  refine kn_then ?_
  refine kwp_seq ?_
  refine kwp_region ?_
  refine kd (v_mv) ?_
  obtain ⟨v4, hv3, h⟩ := e_bind h
  refine kk (n_call Tryd.call57 (w_spec_l20Open code0a code0.length code0c hv3) ?_)
  rintro _ _ ⟨q5p, q50a, q50c, rfl, hvwq5, rfl⟩
  obtain ⟨⟨v7, v8, v9, v10, v11, v12⟩, hv6, h⟩ := e_bind h
  refine kk (n_call Tryd.call72 (w_spec_l20Flow q5p q50a v4.b.length q50c hv6) ?_ (hv := (Views.cons (by repeat (first | exact mh | apply mt | apply mas | apply ms)) hvwq5 (Views.nil _))))
  rintro _ _ ⟨q131a, q131c, q17a, q17c, rfl, rfl⟩
  refine kd (v_ex) ?_
  refine kd (v_ex) ?_
  refine kd (v_ex) ?_
  refine kd (v_ex) ?_
  refine kd (v_ex) ?_
  refine kk (s_B (e' := [.int .i64 v7.p, .slice q131a v7.aw.length q131c]) Tryd.sizeOf32 ?_)
  refine kd (v_as) ?_
  refine kd (v_as) ?_
  refine kd (v_as) ?_
  refine kd (v_as) ?_
  refine kops_nil ?_
  refine kn_then ?_
  refine kwp_ret ?_
  obtain rfl := e_some h
  refine rc4 Tryd.isAgg32 Tryd.sizeOf32 [⟨.slice q131a v7.aw.length q131c, 3, v7.aw.map encAirway⟩, ⟨.slice q17a v11.length q17c, 1, v11.map encI⟩] ?_
  exact ⟨q131a, q131c, q17a, q17c, rfl, rfl⟩

set_option maxRecDepth 20000 in
set_option maxHeartbeats 2000000 in
theorem w_laws_FnFlowOk (code0a : Option Addr) (code0n : Nat) (code0c : Nat) {code0 : List UInt8} {r : Bool} (h : p_laws_FnFlowOk code0 = some r) :
    Triple Tryd.prog 12 [.slice code0a code0n code0c] [⟨.slice code0a code0n code0c, 1, code0.map encB⟩, tabC] [] (fun v ch => v = .bool r ∧ ch = []) := by
  refine triple_start 132 Tryd.func12 Tryd.ntmps12 rfl rfl (fun w0 => ?_)
  refine k_len (c := code0c) (fun hl1 => ?_)
  subst hl1
  unfold p_laws_FnFlowOk at h
  refine kwp_seq ?_
  refine kwp_region ?_
  refine kd (v_as) ?_
  refine kops_nil ?_
  refine kn_then ?_
  refine kwp_seq ?_
  refine kwp_seq ?_
  refine kwp_region ?_
  refine kd (v_mv) ?_
  refine kd (v_len Tryd.runUnderlying22) ?_
  refine kd (v_cmp) ?_
  refine kops_nil ?_
  refine kn_then ?_
  refine kwp_cond rfl (fun hc2 => ?_) (fun hc2 => ?_)
  ·
    replace h := e_t h hc2
    refine kwp_seq ?_
    refine kwp_region ?_
    refine kd (v_as) ?_
    refine kops_nil ?_
    refine kn_then ?_
    refine kwp_ret ?_
    refine kr_then ?_
    obtain rfl := e_some h
    refine r1 [] ?_
    exact ⟨rfl, rfl⟩
  ·
    replace h := e_f h hc2
    refine kwp_skip ?_
    refine kn_then ?_
    refine kwp_seq ?_
    refine kwp_region ?_
    refine kd (v_mv) ?_
    obtain ⟨⟨v4, v5, v6, v7, v8⟩, hv3, h⟩ := e_bind h
    refine kk (n_call Tryd.call49 (w_spec_DrawFlowOk code0a code0.length code0c hv3) ?_)
    rintro _ _ ⟨q91a, q91c, q13a, q13c, rfl, rfl⟩
    refine kd (v_mv) ?_
    refine kd (v_ex) ?_
    refine kd (v_ex) ?_
    refine kd (v_ex) ?_
    refine kd (v_ex) ?_
    refine kd (v_ex) ?_
    refine kops_nilchunk 3 (by decide) ?_
    refine kk (n_alloc (e := [.int .i64 0, .slice none 0 0]) 2 Tryd.zeroValue32 (fun p3_14 => ?_))
    refine kk (s_B (e' := [.int .i64 v4.p, .slice q91a v4.aw.length q91c]) Tryd.sizeOf32 ?_)
    refine kd (v_as) ?_
    refine kd (v_as) ?_
    refine kd (v_as) ?_
    refine kd (v_as) ?_
    refine kops_nil ?_
    refine kn_then ?_
    refine kwp_seq ?_
    refine kwp_region ?_
    refine kd (v_ldB Tryd.isAgg32 Tryd.sizeOf32) ?_
    refine kd (v_mv) ?_
    refine kd (v_mv) ?_
    refine kd (v_mv) ?_
    refine kd (v_mv) ?_
    obtain ⟨v16, hv15, h⟩ := e_bind h
    refine kk (n_call Tryd.call50 (w_impl_FlowOk q91a v4.aw.length q91c q13a v8.length q13c hv15) ?_)
    rintro _ _ ⟨rfl, rfl⟩
    refine kd (v_as) ?_
    refine kops_nil ?_
    refine kn_then ?_
    refine kwp_seq ?_
    refine kwp_seq ?_
    refine kwp_region ?_
    refine kd (v_mv) ?_
    refine kd (v_ldB Tryd.isAgg32 Tryd.sizeOf32) ?_
    refine kd (v_mv) ?_
    refine kd (v_mv) ?_
    refine kd (v_mv) ?_
    refine kd (v_mv) ?_
    obtain ⟨v19, hv18, h⟩ := e_bind h
    refine kk (n_call Tryd.call51 (w_spec_FlowOk q91a v4.aw.length q91c q13a v8.length q13c hv18) ?_)
    rintro _ _ ⟨rfl, rfl⟩
    refine kd (v_neb Tryd.underlying4) ?_
    refine kops_nil ?_
    refine kn_then ?_
    refine kwp_cond rfl (fun hc21 => ?_) (fun hc21 => ?_)
    ·
      replace h := e_t h hc21
      refine kwp_seq ?_
      refine kwp_region ?_
      refine kd (v_as) ?_
      refine kops_nil ?_
      refine kn_then ?_
      refine kwp_ret ?_
      refine kr_then ?_
      obtain rfl := e_some h
      refine r1 [] ?_
      exact ⟨rfl, rfl⟩
    ·
      replace h := e_f h hc21
      refine kwp_skip ?_
      refine kn_then ?_
      refine kwp_seq ?_
      refine kwp_seq ?_
      refine kwp_region ?_
      refine kd (v_mv) ?_
      refine kd (v_not) ?_
      refine kops_nil ?_
      refine kn_then ?_
      refine kwp_cond rfl (fun hc22 => ?_) (fun hc22 => ?_)
      ·
        replace h := e_t h hc22
        refine kwp_seq ?_
        refine kwp_region ?_
        obtain ⟨v24, hv23, h⟩ := e_bind h
        refine kk (n_call Tryd.call18 (w_laws_alive hv23) ?_)
        rintro _ _ ⟨rfl, rfl⟩
        refine kd (v_as) ?_
        refine kops_nil ?_
        refine kn_then ?_
        refine kwp_ret ?_
        refine kr_then ?_
        obtain rfl := e_some h
        refine r1 [] ?_
        exact ⟨rfl, rfl⟩
      ·
        replace h := e_f h hc22
        refine kwp_skip ?_
        refine kn_then ?_
        refine kwp_seq ?_
        refine kwp_region ?_
        refine kk (n_lit (enc := encI) [] ([] : List Int) Tryd.runUnderlying46 Tryd.sizeOf3 Tryd.zeroValue3 (fun a26 => ?_))
        refine kd (v_as) ?_
        refine kops_nil ?_
        refine kn_then ?_
        refine kwp_seq ?_
        refine kwp_seq ?_
        refine kwp_region ?_
        refine kd (v_as) ?_
        refine kops_nil ?_
        refine kn_then ?_
        refine kwp_cutE (inv := [(3, .pointer (some p3_14)), (4, .int .i64 v5), (5, .int .i64 v6), (6, .int .i64 v7), (7, .slice q13a v8.length q13c)]) (fun (z : List Int) (y : Option Addr × Nat × Nat) => [(9, .slice y.1 y.2.1 y.2.2)]) (fun (z : List Int) (y : Option Addr × Nat × Nat) => [⟨.slice y.1 y.2.1 y.2.2, 1, z.map encI⟩, ⟨.pointer (some p3_14), 2, [[.int .i64 v4.p, .slice q91a v4.aw.length q91c]]⟩, ⟨.slice q91a v4.aw.length q91c, 3, v4.aw.map encAirway⟩, ⟨.slice q13a v8.length q13c, 1, v8.map encI⟩]) (fun _ _ => True) h ?_ ?_
        · intro t30 h28
          refine kwp_block ?_
          refine kwp_loopE (inv := [(3, .pointer (some p3_14)), (4, .int .i64 v5), (5, .int .i64 v6), (6, .int .i64 v7), (7, .slice q13a v8.length q13c)]) (fun (z : List Int × Int) (y : Option Addr × Nat × Nat) => [(9, .slice y.1 y.2.1 y.2.2), (10, .int .i64 z.2)]) (fun (z : List Int × Int) (y : Option Addr × Nat × Nat) => [⟨.slice y.1 y.2.1 y.2.2, 1, z.1.map encI⟩, ⟨.pointer (some p3_14), 2, [[.int .i64 v4.p, .slice q91a v4.aw.length q91c]]⟩, ⟨.slice q91a v4.aw.length q91c, 3, v4.aw.map encAirway⟩, ⟨.slice q13a v8.length q13c, 1, v8.map encI⟩]) (fun _ _ => True) h28 ⟨(some a26, 0, 0), hd_mk trivial⟩ ?_
          intro z35 y36 b33 _ h34
          obtain ⟨twice31, k32⟩ := z35
          obtain ⟨twice31a, twice31n, twice31c⟩ := y36
          refine k_len (c := twice31c) (fun hl37 => ?_)
          subst hl37
          unfold p_laws_FnFlowOk_L0 at h34
          refine kwp_seq ?_
          refine kwp_seq ?_
          refine kwp_region ?_
          refine kd (v_mv) ?_
          refine kd (v_mv) ?_
          refine kd (v_len Tryd.runUnderlying46) ?_
          refine kd (v_cmp) ?_
          refine kops_nil ?_
          refine kn_then ?_
          refine kwp_cond rfl (fun hc38 => ?_) (fun hc38 => ?_)
          ·
            replace h34 := e_t h34 hc38
            refine kwp_skip ?_
            refine kn_then ?_
            refine kwp_seq ?_
            refine kwp_block ?_
            refine kwp_region ?_
            refine kd (v_mv) ?_
            refine kd (v_mv) ?_
            refine kd (v_mv) ?_
            obtain ⟨j39, ej39, nj39, h34⟩ := e_idx h34
            refine kd (v_ia ej39 nj39 Tryd.runUnderlying46 Tryd.sizeOf3) ?_
            refine kd (v_ldf nj39 Tryd.isAgg3) ?_
            refine kd (v_mul) ?_
            refine kk (n_lit (enc := encI) [_] ([w64 (2 * (gx v8 j39))] : List Int) Tryd.runUnderlying46 Tryd.sizeOf3 Tryd.zeroValue3 (fun a40 => ?_))
            obtain ⟨hz41, h34⟩ := e_need h34
            refine kk (n_app (enc := encI) ok_encI hz41 Tryd.underlying46 Tryd.type3 (by decide) (fun a42 c43 => ?_))
            refine kd (v_as) ?_
            refine kops_nil ?_
            refine kn_block ?_
            refine kn_then ?_
            refine kwp_region ?_
            refine kd (v_mv) ?_
            refine kd (v_add) ?_
            refine kd (v_as) ?_
            refine kops_nil ?_
            refine kn_then ?_
            obtain rfl := e_some h34
            exact ⟨_, (a42, (twice31 ++ ([w64 (2 * (gx v8 j39))] : List Int)).length, c43), rfl, hd_mk trivial⟩
          ·
            replace h34 := e_f h34 hc38
            refine kwp_exit ?_
            refine ke_then ?_
            obtain rfl := e_some h34
            refine k_out ?_ rfl
            rintro rfl
            refine ke_block ?_
            exact ⟨(twice31a, twice31.length, twice31c), hd_mk trivial⟩
        · intro twice27 y45 _ h46
          obtain ⟨twice27a, twice27n, twice27c⟩ := y45
          refine k_len (c := twice27c) (fun hl47 => ?_)
          subst hl47
          refine kwp_seq ?_
          refine kwp_region ?_
          refine kd (v_ldB Tryd.isAgg32 Tryd.sizeOf32) ?_
          refine kd (v_mv) ?_
          refine kd (v_mv) ?_
          obtain ⟨⟨v49, v50⟩, hv48, h46⟩ := e_bind h46
          refine kk (n_call Tryd.call44 (w_impl_AirFlow q91a v4.aw.length q91c hv48) ?_)
          rintro _ _ ⟨q51a, q51c, rfl, rfl⟩
          refine kd (v_mv) ?_
          refine kd (v_ex) ?_
          refine kd (v_ex) ?_
          refine kd (v_as) ?_
          refine kd (v_as) ?_
          refine kops_nil ?_
          refine kn_then ?_
          refine kwp_seq ?_
          refine kwp_seq ?_
          refine kwp_region ?_
          refine kd (v_mv) ?_
          refine kd (v_not) ?_
          refine kops_nil ?_
          refine kn_then ?_
          refine kwp_cond rfl (fun hc53 => ?_) (fun hc53 => ?_)
          ·
            replace h46 := e_t h46 hc53
            refine kwp_seq ?_
            refine kwp_region ?_
            refine kd (v_ldB Tryd.isAgg32 Tryd.sizeOf32) ?_
            refine kd (v_mv) ?_
            refine kd (v_mv) ?_
            refine kd (v_mv) ?_
            refine kd (v_mul) ?_
            refine kd (v_mv) ?_
            obtain ⟨v55, hv54, h46⟩ := e_bind h46
            refine kk (n_call Tryd.call50 (w_impl_FlowOk q91a v4.aw.length q91c twice27a twice27.length twice27c hv54) ?_)
            rintro _ _ ⟨rfl, rfl⟩
            refine kd (v_as) ?_
            refine kops_nil ?_
            refine kn_then ?_
            refine kwp_ret ?_
            refine kr_then ?_
            obtain rfl := e_some h46
            refine r1 [] ?_
            exact ⟨rfl, rfl⟩
          ·
            replace h46 := e_f h46 hc53
            refine kwp_skip ?_
            refine kn_then ?_
            refine kwp_seq ?_
            refine kwp_region ?_
            refine kd (v_ldB Tryd.isAgg32 Tryd.sizeOf32) ?_
            obtain ⟨v58, hv57, h46⟩ := e_bind h46
            refine kk (n_call Tryd.call37 (w_impl_AirTrees q91a v4.aw.length q91c hv57) ?_)
            rintro _ _ ⟨rfl, rfl⟩
            refine kd (v_as) ?_
            refine kops_nil ?_
            refine kn_then ?_
            refine kwp_seq ?_
            refine kwp_region ?_
            refine kk (n_lit (enc := encI) [] ([] : List Int) Tryd.runUnderlying46 Tryd.sizeOf3 Tryd.zeroValue3 (fun a60 => ?_))
            refine kd (v_as) ?_
            refine kops_nil ?_
            refine kn_then ?_
            refine kwp_seq ?_
            refine kwp_region ?_
            refine kk (n_lit (enc := encI) [] ([] : List Int) Tryd.runUnderlying46 Tryd.sizeOf3 Tryd.zeroValue3 (fun a61 => ?_))
            refine kd (v_as) ?_
            refine kops_nil ?_
            refine kn_then ?_
            refine kwp_seq ?_
            refine kwp_seq ?_
            refine kwp_region ?_
            refine kd (v_as) ?_
            refine kops_nil ?_
            refine kn_then ?_
            refine kwp_cutE (inv := [(3, .pointer (some p3_14)), (4, .int .i64 v5), (5, .int .i64 v6), (6, .int .i64 v7), (9, .slice twice27a twice27.length twice27c)]) (fun (z : List Int × List Int) (y : Option Addr × Nat × Nat × Option Addr × Nat × Nat) => [(14, .slice y.1 y.2.1 y.2.2.1), (15, .slice y.2.2.2.1 y.2.2.2.2.1 y.2.2.2.2.2)]) (fun (z : List Int × List Int) (y : Option Addr × Nat × Nat × Option Addr × Nat × Nat) => [⟨.slice y.1 y.2.1 y.2.2.1, 1, z.1.map encI⟩, ⟨.slice y.2.2.2.1 y.2.2.2.2.1 y.2.2.2.2.2, 1, z.2.map encI⟩, ⟨.pointer (some p3_14), 2, [[.int .i64 v4.p, .slice q91a v4.aw.length q91c]]⟩, ⟨.slice q91a v4.aw.length q91c, 3, v4.aw.map encAirway⟩, ⟨.slice twice27a (twice27.length) twice27c, 1, twice27.map encI⟩]) (fun _ _ => True) h46 ?_ ?_
            · intro t66 h64
              refine kwp_block ?_
              refine kwp_loopE (inv := [(3, .pointer (some p3_14)), (4, .int .i64 v5), (5, .int .i64 v6), (6, .int .i64 v7), (7, .slice q13a v8.length q13c), (9, .slice twice27a twice27.length twice27c), (11, .slice q51a v49.length q51c), (13, .int .i64 v58)]) (fun (z : List Int × List Int × Int) (y : Option Addr × Nat × Nat × Option Addr × Nat × Nat) => [(14, .slice y.1 y.2.1 y.2.2.1), (15, .slice y.2.2.2.1 y.2.2.2.2.1 y.2.2.2.2.2), (16, .int .i64 z.2.2)]) (fun (z : List Int × List Int × Int) (y : Option Addr × Nat × Nat × Option Addr × Nat × Nat) => [⟨.slice y.1 y.2.1 y.2.2.1, 1, z.1.map encI⟩, ⟨.slice y.2.2.2.1 y.2.2.2.2.1 y.2.2.2.2.2, 1, z.2.1.map encI⟩, ⟨.pointer (some p3_14), 2, [[.int .i64 v4.p, .slice q91a v4.aw.length q91c]]⟩, ⟨.slice q91a v4.aw.length q91c, 3, v4.aw.map encAirway⟩, ⟨.slice q13a v8.length q13c, 1, v8.map encI⟩, ⟨.slice twice27a (twice27.length) twice27c, 1, twice27.map encI⟩, ⟨.slice q51a v49.length q51c, 1, v49.map encI⟩]) (fun _ _ => True) h64 ⟨(some a60, 0, 0, some a61, 0, 0), hd_mk trivial⟩ ?_
              intro z72 y73 b70 _ h71
              obtain ⟨big67, best68, k69⟩ := z72
              obtain ⟨big67a, big67n, big67c, best68a, best68n, best68c⟩ := y73
              refine k_len (c := big67c) (fun hl74 => ?_)
              subst hl74
              refine k_len (c := best68c) (fun hl75 => ?_)
              subst hl75
              unfold p_laws_FnFlowOk_L1 at h71
              refine kwp_seq ?_
              refine kwp_seq ?_
              refine kwp_cutE (inv := [(3, .pointer (some p3_14)), (4, .int .i64 v5), (5, .int .i64 v6), (6, .int .i64 v7), (7, .slice q13a v8.length q13c), (9, .slice twice27a twice27.length twice27c), (11, .slice q51a v49.length q51c), (13, .int .i64 v58), (14, .slice big67a big67.length big67c), (15, .slice best68a best68.length best68c), (16, .int .i64 k69)]) (fun (z : Bool) (y : Unit) => [(90, .bool z)]) (fun (z : Bool) (y : Unit) => [⟨.pointer (some p3_14), 2, [[.int .i64 v4.p, .slice q91a v4.aw.length q91c]]⟩, ⟨.slice q91a v4.aw.length q91c, 3, v4.aw.map encAirway⟩, ⟨.slice q13a v8.length q13c, 1, v8.map encI⟩, ⟨.slice twice27a (twice27.length) twice27c, 1, twice27.map encI⟩, ⟨.slice q51a v49.length q51c, 1, v49.map encI⟩, ⟨.slice big67a (big67.length) big67c, 1, big67.map encI⟩, ⟨.slice best68a (best68.length) best68c, 1, best68.map encI⟩]) (fun _ _ => True) h71 ?_ ?_
              · intro t79 h77
                refine kwp_region ?_
                refine kd (v_mv) ?_
                refine kd (v_mv) ?_
                refine kd (v_len Tryd.runUnderlying46) ?_
                refine kd (v_cmp) ?_
                refine kd (v_mv) ?_
                refine kops_split 85 rfl (fun hb80 => ?_) (fun hb80 => ?_)
                ·
                  replace h77 := e_t h77 hb80
                  refine kgd hb80 (v_mv) ?_
                  refine kgd hb80 (v_mv) ?_
                  refine kgd hb80 (v_len Tryd.runUnderlying46) ?_
                  refine kgd hb80 (v_cmp) ?_
                  refine kd (v_pt hb80) ?_
                  refine kops_nil ?_
                  refine kn_then ?_
                  obtain rfl := e_some h77
                  exact ⟨(), hd_mk trivial⟩
                ·
                  replace h77 := e_f h77 hb80
                  refine kskip hb80 ?_
                  refine kskip hb80 ?_
                  refine kskip hb80 ?_
                  refine kskip hb80 ?_
                  refine kd (v_pf hb80) ?_
                  refine kops_nil ?_
                  refine kn_then ?_
                  obtain rfl := e_some h77
                  exact ⟨(), hd_mk trivial⟩
              · intro x76 y82 _ h83
                refine kn_then ?_
                refine kwp_cond rfl (fun hc84 => ?_) (fun hc84 => ?_)
                ·
                  replace h83 := e_t h83 hc84
                  refine kwp_skip ?_
                  refine kn_then ?_
                  refine kwp_seq ?_
                  refine kwp_block ?_
                  refine kwp_seq ?_
                  refine kwp_region ?_
                  refine kd (v_mv) ?_
                  refine kd (v_mv) ?_
                  refine kd (v_mv) ?_
                  refine kd (v_mv) ?_
                  obtain ⟨j85, ej85, nj85, h83⟩ := e_idx h83
                  refine kd (v_ia ej85 nj85 Tryd.runUnderlying46 Tryd.sizeOf3) ?_
                  refine kd (v_ldf nj85 Tryd.isAgg3) ?_
                  refine kd (v_mul) ?_
                  refine kk (n_lit (enc := encI) [_] ([w64 (v58 * (gx v8 j85))] : List Int) Tryd.runUnderlying46 Tryd.sizeOf3 Tryd.zeroValue3 (fun a86 => ?_))
                  obtain ⟨hz87, h83⟩ := e_need h83
                  refine kk (n_app (enc := encI) ok_encI hz87 Tryd.underlying46 Tryd.type3 (by decide) (fun a88 c89 => ?_))
                  refine kd (v_as) ?_
                  refine kops_nil ?_
                  refine kn_then ?_
                  refine kwp_region ?_
                  refine kd (v_mv) ?_
                  refine kd (v_mv) ?_
                  refine kd (v_mv) ?_
                  refine kd (v_mv) ?_
                  obtain ⟨j90, ej90, nj90, h83⟩ := e_idx h83
                  refine kd (v_ia ej90 nj90 Tryd.runUnderlying46 Tryd.sizeOf3) ?_
                  refine kd (v_ldf nj90 Tryd.isAgg3) ?_
                  refine kd (v_mul) ?_
                  refine kk (n_lit (enc := encI) [_] ([w64 (v7 * (gx v49 j90))] : List Int) Tryd.runUnderlying46 Tryd.sizeOf3 Tryd.zeroValue3 (fun a91 => ?_))
                  obtain ⟨hz92, h83⟩ := e_need h83
                  refine kk (n_app (enc := encI) ok_encI hz92 Tryd.underlying46 Tryd.type3 (by decide) (fun a93 c94 => ?_))
                  refine kd (v_as) ?_
                  refine kops_nil ?_
                  refine kn_block ?_
                  refine kn_then ?_
                  refine kwp_region ?_
                  refine kd (v_mv) ?_
                  refine kd (v_add) ?_
                  refine kd (v_as) ?_
                  refine kops_nil ?_
                  refine kn_then ?_
                  obtain rfl := e_some h83
                  exact ⟨_, (a88, (big67 ++ ([w64 (v58 * (gx v8 j85))] : List Int)).length, c89, a93, (best68 ++ ([w64 (v7 * (gx v49 j90))] : List Int)).length, c94), rfl, hd_mk trivial⟩
                ·
                  replace h83 := e_f h83 hc84
                  refine kwp_exit ?_
                  refine ke_then ?_
                  obtain rfl := e_some h83
                  refine k_out ?_ rfl
                  rintro rfl
                  refine ke_block ?_
                  exact ⟨(big67a, big67.length, big67c, best68a, best68.length, best68c), hd_mk trivial⟩
            · intro z95 y96 _ h97
              obtain ⟨big62, best63⟩ := z95
              obtain ⟨big62a, big62n, big62c, best63a, best63n, best63c⟩ := y96
              refine k_len (c := big62c) (fun hl98 => ?_)
              subst hl98
              refine k_len (c := best63c) (fun hl99 => ?_)
              subst hl99
              refine kwp_seq ?_
              refine kwp_region ?_
              refine kd (v_ldB Tryd.isAgg32 Tryd.sizeOf32) ?_
              refine kd (v_mv) ?_
              obtain ⟨v101, hv100, h97⟩ := e_bind h97
              refine kk (n_call Tryd.call33 (w_impl_FlowLoss q91a v4.aw.length q91c big62a big62.length big62c hv100) ?_)
              rintro _ _ ⟨rfl, rfl⟩
              refine kd (v_as) ?_
              refine kops_nil ?_
              refine kn_then ?_
              refine kwp_seq ?_
              refine kwp_region ?_
              refine kd (v_ldB Tryd.isAgg32 Tryd.sizeOf32) ?_
              refine kd (v_mv) ?_
              refine kd (v_mv) ?_
              refine kd (v_mv) ?_
              refine kd (v_mul) ?_
              refine kd (v_mv) ?_
              obtain ⟨v104, hv103, h97⟩ := e_bind h97
              refine kk (n_call Tryd.call50 (w_impl_FlowOk q91a v4.aw.length q91c twice27a twice27.length twice27c hv103) ?_)
              rintro _ _ ⟨rfl, rfl⟩
              refine kd (v_mv) ?_
              refine kops_split 121 rfl (fun hb106 => ?_) (fun hb106 => ?_)
              ·
                replace h97 := e_t h97 hb106
                refine kgd hb106 (v_mv) ?_
                refine kgd hb106 (v_cmp) ?_
                refine kgd hb106 (v_mv) ?_
                refine kops_split 124 rfl (fun hb107 => ?_) (fun hb107 => ?_)
                ·
                  replace h97 := e_t h97 hb107
                  refine kskip hb107 ?_
                  refine kskip hb107 ?_
                  refine kskip hb107 ?_
                  refine kskip hb107 ?_
                  refine kskip hb107 ?_
                  refine kgd hb106 (v_pt hb107) ?_
                  refine kd (v_pt hb106) ?_
                  refine kd (v_as) ?_
                  refine kops_nil ?_
                  refine kn_then ?_
                  refine kwp_ret ?_
                  obtain rfl := e_some h97
                  refine r1 [] ?_
                  exact ⟨rfl, rfl⟩
                ·
                  replace h97 := e_f h97 hb107
                  refine kgd hb107 (v_ldB Tryd.isAgg32 Tryd.sizeOf32) ?_
                  refine kgd hb107 (v_mv) ?_
                  obtain ⟨v109, hv108, h97⟩ := e_bind h97
                  refine kgk hb107 (n_call Tryd.call33 (w_impl_FlowLoss q91a v4.aw.length q91c best63a best63.length best63c hv108) ?_)
                  rintro _ _ ⟨rfl, rfl⟩
                  refine kgd hb107 (v_mv) ?_
                  refine kgd hb107 (v_cmp) ?_
                  refine kgd hb106 (v_pf hb107) ?_
                  refine kd (v_pt hb106) ?_
                  refine kd (v_as) ?_
                  refine kops_nil ?_
                  refine kn_then ?_
                  refine kwp_ret ?_
                  obtain rfl := e_some h97
                  refine r1 [] ?_
                  exact ⟨rfl, rfl⟩
              ·
                replace h97 := e_f h97 hb106
                refine kskip hb106 ?_
                refine kskip hb106 ?_
                refine kskip hb106 ?_
                refine kops_skipU ?_
                refine kops_skipU ?_
                refine kops_skipU ?_
                refine kops_skipU ?_
                refine kops_skipU ?_
                refine kskip hb106 ?_
                refine kd (v_pf hb106) ?_
                refine kd (v_as) ?_
                refine kops_nil ?_
                refine kn_then ?_
                refine kwp_ret ?_
                obtain rfl := e_some h97
                refine r1 [] ?_
                exact ⟨rfl, rfl⟩

end Go.Proofs.YtpfijnklnljccaaDoor
