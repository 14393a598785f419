/- What the plain programs return, the functions of the program return; no condition. -/
import Derived.Test.YtpfijnklnljccaaDoorZQ
import Derived.Test.YtpfijnklnljccaaDoorZFa
import Derived.Test.YtpfijnklnljccaaDoorZVbu
import Derived.Test.YtpfijnklnljccaaDoorZVbt
import Derived.Test.YtpfijnklnljccaaDoorZVbf
namespace Go.Proofs.YtpfijnklnljccaaDoor
open Go
set_option linter.unusedVariables false
set_option linter.unusedSimpArgs false

set_option maxRecDepth 20000 in
theorem w_spec_DrawFlowLoss (code0a : Option Addr) (code0n : Nat) (code0c : Nat) {code0 : List UInt8} {r : Mine × List Int} (h : p_spec_DrawFlowLoss code0 = some r) :
    Triple Tryd.prog 32 [.slice code0a code0n code0c] [⟨.slice code0a code0n code0c, 1, code0.map encB⟩] [] (fun v ch => ∃ (w01a : Option Addr) (w01c : Nat) (w1a : Option Addr) (w1c : Nat), v = .tuple #[.agg #[.int .i64 r.1.p, .slice w01a r.1.aw.length w01c], .slice w1a r.2.length w1c] ∧ ch = [⟨.slice w01a r.1.aw.length w01c, 3, r.1.aw.map encAirway⟩, ⟨.slice w1a r.2.length w1c, 1, r.2.map encI⟩]) := by
  refine triple_start 27 Tryd.func32 Tryd.ntmps32 rfl rfl (fun w0 => ?_)
  refine k_len (c := code0c) (fun hl1 => ?_)
  subst hl1
  unfold p_spec_DrawFlowLoss at h
  refine kwp_seq ?_
  refine kwp_region ?_
  refine kops_nilchunk 3 (by decide) ?_
  refine kk (n_alloc (e := [.int .i64 0, .slice none 0 0]) 2 Tryd.zeroValue32 (fun p2_2 => ?_))
  refine kops_nilchunk 1 (by decide) ?_
  refine kd (v_as) ?_
  refine kops_nil ?_
  refine kn_then ?_
  refine kwp_seq ?_
  refine kwp_region ?_
  refine kd (v_mv) ?_
  obtain ⟨v4, hv3, h⟩ := e_bind h
  refine kk (n_call Tryd.call57 (w_spec_l20Open code0a code0.length code0c hv3) ?_)
  rintro _ _ ⟨q5p, q50a, q50c, rfl, hvwq5, rfl⟩
  refine kd (v_as) ?_
  refine kops_nil ?_
  refine kn_then ?_
  refine kwp_seq ?_
  refine kwp_region ?_
  refine kd (v_mv) ?_
  obtain ⟨⟨v7, v8, v9, v10, v11, v12⟩, hv6, h⟩ := e_bind h
  refine kk (n_call Tryd.call72 (w_spec_l20Flow q5p q50a v4.b.length q50c hv6) ?_ (hv := (Views.cons (by repeat (first | exact mh | apply mt | apply mas | apply ms)) hvwq5 (Views.nil _))))
  rintro _ _ ⟨q131a, q131c, q17a, q17c, rfl, rfl⟩
  refine kd (v_mv) ?_
  refine kd (v_ex) ?_
  refine kd (v_ex) ?_
  refine kd (v_ex) ?_
  refine kd (v_ex) ?_
  refine kd (v_ex) ?_
  refine kops_nilchunk 3 (by decide) ?_
  refine kk (n_alloc (e := [.int .i64 0, .slice none 0 0]) 2 Tryd.zeroValue32 (fun p5_18 => ?_))
  refine kk (s_B (e' := [.int .i64 v7.p, .slice q131a v7.aw.length q131c]) Tryd.sizeOf32 ?_)
  refine kd (v_as) ?_
  refine kd (v_as) ?_
  refine kd (v_as) ?_
  refine kd (v_as) ?_
  refine kops_nil ?_
  refine kn_then ?_
  refine kwp_seq ?_
  refine kwp_seq ?_
  refine kwp_region ?_
  refine kd (v_mv) ?_
  obtain ⟨⟨v20, v21⟩, hv19, h⟩ := e_bind h
  refine kk (n_call Tryd.call73 (w_spec_l20Rd_odd q5p q50a v4.b.length q50c hv19) ?_ (hv := (Views.cons (by repeat (first | exact mh | apply mt | apply mas | apply ms)) hvwq5 (Views.nil _))))
  rintro _ _ ⟨rfl, rfl⟩
  refine kops_nil ?_
  refine kn_then ?_
  refine kwp_cond rfl (fun hc23 => ?_) (fun hc23 => ?_)
  ·
    replace h := e_t h hc23
    refine kwp_region ?_
    refine kd (v_mv) ?_
    refine kk (n_lit (enc := encI) [_] ([1] : List Int) Tryd.runUnderlying46 Tryd.sizeOf3 Tryd.zeroValue3 (fun a24 => ?_))
    obtain ⟨hz25, h⟩ := e_need h
    refine kk (n_app (enc := encI) ok_encI hz25 Tryd.underlying46 Tryd.type3 (by decide) (fun a26 c27 => ?_))
    refine kd (v_as) ?_
    refine kops_nil ?_
    refine kn_then ?_
    refine kwp_seq ?_
    refine kwp_region ?_
    refine kd (v_ldB Tryd.isAgg32 Tryd.sizeOf32) ?_
    refine kd (v_mv) ?_
    refine kk (s_B (e' := [.int .i64 v7.p, .slice q131a v7.aw.length q131c]) Tryd.sizeOf32 ?_)
    refine kd (v_as) ?_
    refine kops_nil ?_
    refine kn_then ?_
    refine kwp_ret ?_
    obtain rfl := e_some h
    refine rc1 Tryd.isAgg32 Tryd.sizeOf32 [⟨.slice q131a v7.aw.length q131c, 3, v7.aw.map encAirway⟩, ⟨.slice a26 ((v11 ++ ([1] : List Int)).length) c27, 1, (v11 ++ ([1] : List Int)).map encI⟩] ?_
    exact ⟨q131a, q131c, a26, c27, rfl, rfl⟩
  ·
    replace h := e_f h hc23
    refine kwp_skip ?_
    refine kn_then ?_
    refine kwp_seq ?_
    refine kwp_region ?_
    refine kd (v_ldB Tryd.isAgg32 Tryd.sizeOf32) ?_
    refine kd (v_mv) ?_
    refine kk (s_B (e' := [.int .i64 v7.p, .slice q131a v7.aw.length q131c]) Tryd.sizeOf32 ?_)
    refine kd (v_as) ?_
    refine kops_nil ?_
    refine kn_then ?_
    refine kwp_ret ?_
    obtain rfl := e_some h
    refine rc1 Tryd.isAgg32 Tryd.sizeOf32 [⟨.slice q131a v7.aw.length q131c, 3, v7.aw.map encAirway⟩, ⟨.slice q17a v11.length q17c, 1, v11.map encI⟩] ?_
    exact ⟨q131a, q131c, q17a, q17c, rfl, rfl⟩

set_option maxRecDepth 20000 in
set_option maxHeartbeats 2000000 in
theorem w_laws_FnFlowLoss (code0a : Option Addr) (code0n : Nat) (code0c : Nat) {code0 : List UInt8} {r : Bool} (h : p_laws_FnFlowLoss code0 = some r) :
    Triple Tryd.prog 7 [.slice code0a code0n code0c] [⟨.slice code0a code0n code0c, 1, code0.map encB⟩, tabC] [] (fun v ch => v = .bool r ∧ ch = []) := by
  refine triple_start 84 Tryd.func7 Tryd.ntmps7 rfl rfl (fun w0 => ?_)
  refine k_len (c := code0c) (fun hl1 => ?_)
  subst hl1
  unfold p_laws_FnFlowLoss at h
  refine kwp_seq ?_
  refine kwp_region ?_
  refine kd (v_as) ?_
  refine kops_nil ?_
  refine kn_then ?_
  refine kwp_seq ?_
  refine kwp_seq ?_
  refine kwp_region ?_
  refine kd (v_mv) ?_
  refine kd (v_len Tryd.runUnderlying22) ?_
  refine kd (v_cmp) ?_
  refine kops_nil ?_
  refine kn_then ?_
  refine kwp_cond rfl (fun hc2 => ?_) (fun hc2 => ?_)
  ·
    replace h := e_t h hc2
    refine kwp_seq ?_
    refine kwp_region ?_
    refine kd (v_as) ?_
    refine kops_nil ?_
    refine kn_then ?_
    refine kwp_ret ?_
    refine kr_then ?_
    obtain rfl := e_some h
    refine r1 [] ?_
    exact ⟨rfl, rfl⟩
  ·
    replace h := e_f h hc2
    refine kwp_skip ?_
    refine kn_then ?_
    refine kwp_seq ?_
    refine kwp_region ?_
    refine kd (v_mv) ?_
    obtain ⟨⟨v4, v5⟩, hv3, h⟩ := e_bind h
    refine kk (n_call Tryd.call32 (w_spec_DrawFlowLoss code0a code0.length code0c hv3) ?_)
    rintro _ _ ⟨q61a, q61c, q7a, q7c, rfl, rfl⟩
    refine kd (v_mv) ?_
    refine kd (v_ex) ?_
    refine kd (v_ex) ?_
    refine kops_nilchunk 3 (by decide) ?_
    refine kk (n_alloc (e := [.int .i64 0, .slice none 0 0]) 2 Tryd.zeroValue32 (fun p3_8 => ?_))
    refine kk (s_B (e' := [.int .i64 v4.p, .slice q61a v4.aw.length q61c]) Tryd.sizeOf32 ?_)
    refine kd (v_as) ?_
    refine kops_nil ?_
    refine kn_then ?_
    refine kwp_seq ?_
    refine kwp_region ?_
    refine kd (v_ldB Tryd.isAgg32 Tryd.sizeOf32) ?_
    refine kd (v_mv) ?_
    obtain ⟨v10, hv9, h⟩ := e_bind h
    refine kk (n_call Tryd.call33 (w_impl_FlowLoss q61a v4.aw.length q61c q7a v5.length q7c hv9) ?_)
    rintro _ _ ⟨rfl, rfl⟩
    refine kd (v_as) ?_
    refine kops_nil ?_
    refine kn_then ?_
    refine kwp_seq ?_
    refine kwp_seq ?_
    refine kwp_region ?_
    refine kd (v_mv) ?_
    refine kd (v_ldB Tryd.isAgg32 Tryd.sizeOf32) ?_
    refine kd (v_mv) ?_
    obtain ⟨v13, hv12, h⟩ := e_bind h
    refine kk (n_call Tryd.call34 (w_spec_FlowLoss q61a v4.aw.length q61c q7a v5.length q7c hv12) ?_)
    rintro _ _ ⟨rfl, rfl⟩
    refine kd (v_cmp) ?_
    refine kops_nil ?_
    refine kn_then ?_
    refine kwp_cond rfl (fun hc15 => ?_) (fun hc15 => ?_)
    ·
      replace h := e_t h hc15
      refine kwp_seq ?_
      refine kwp_region ?_
      refine kd (v_as) ?_
      refine kops_nil ?_
      refine kn_then ?_
      refine kwp_ret ?_
      refine kr_then ?_
      obtain rfl := e_some h
      refine r1 [] ?_
      exact ⟨rfl, rfl⟩
    ·
      replace h := e_f h hc15
      refine kwp_skip ?_
      refine kn_then ?_
      refine kwp_seq ?_
      refine kwp_seq ?_
      refine kwp_region ?_
      refine kd (v_mv) ?_
      refine kd (v_cmp) ?_
      refine kops_nil ?_
      refine kn_then ?_
      refine kwp_cond rfl (fun hc16 => ?_) (fun hc16 => ?_)
      ·
        replace h := e_t h hc16
        refine kwp_seq ?_
        refine kwp_region ?_
        refine kd (v_mv) ?_
        refine kd (v_cmp) ?_
        refine kd (v_mv) ?_
        refine kops_split 30 rfl (fun hb17 => ?_) (fun hb17 => ?_)
        ·
          replace h := e_t h hb17
          obtain ⟨v19, hv18, h⟩ := e_bind h
          refine kgk hb17 (n_call Tryd.call18 (w_laws_alive hv18) ?_)
          rintro _ _ ⟨rfl, rfl⟩
          refine kd (v_pt hb17) ?_
          refine kd (v_as) ?_
          refine kops_nil ?_
          refine kn_then ?_
          refine kwp_ret ?_
          refine kr_then ?_
          obtain rfl := e_some h
          refine r1 [] ?_
          exact ⟨rfl, rfl⟩
        ·
          replace h := e_f h hb17
          refine kskip hb17 ?_
          refine kd (v_pf hb17) ?_
          refine kd (v_as) ?_
          refine kops_nil ?_
          refine kn_then ?_
          refine kwp_ret ?_
          refine kr_then ?_
          obtain rfl := e_some h
          refine r1 [] ?_
          exact ⟨rfl, rfl⟩
      ·
        replace h := e_f h hc16
        refine kwp_skip ?_
        refine kn_then ?_
        refine kwp_seq ?_
        refine kwp_region ?_
        refine kk (n_lit (enc := encI) [] ([] : List Int) Tryd.runUnderlying46 Tryd.sizeOf3 Tryd.zeroValue3 (fun a21 => ?_))
        refine kd (v_as) ?_
        refine kops_nil ?_
        refine kn_then ?_
        refine kwp_seq ?_
        refine kwp_region ?_
        refine kk (n_lit (enc := encI) [] ([] : List Int) Tryd.runUnderlying46 Tryd.sizeOf3 Tryd.zeroValue3 (fun a22 => ?_))
        refine kd (v_as) ?_
        refine kops_nil ?_
        refine kn_then ?_
        refine kwp_seq ?_
        refine kwp_region ?_
        refine kd (v_as) ?_
        refine kops_nil ?_
        refine kn_then ?_
        refine kwp_seq ?_
        refine kwp_seq ?_
        refine kwp_region ?_
        refine kd (v_as) ?_
        refine kops_nil ?_
        refine kn_then ?_
        refine kwp_cutE (inv := [(3, .pointer (some p3_8)), (5, .int .i64 v10)]) (fun (z : List Int × List Int × Bool) (y : Option Addr × Nat × Nat × Option Addr × Nat × Nat) => [(6, .slice y.1 y.2.1 y.2.2.1), (7, .slice y.2.2.2.1 y.2.2.2.2.1 y.2.2.2.2.2), (8, .bool z.2.2)]) (fun (z : List Int × List Int × Bool) (y : Option Addr × Nat × Nat × Option Addr × Nat × Nat) => [⟨.slice y.1 y.2.1 y.2.2.1, 1, z.1.map encI⟩, ⟨.slice y.2.2.2.1 y.2.2.2.2.1 y.2.2.2.2.2, 1, z.2.1.map encI⟩, ⟨.pointer (some p3_8), 2, [[.int .i64 v4.p, .slice q61a v4.aw.length q61c]]⟩, ⟨.slice q61a v4.aw.length q61c, 3, v4.aw.map encAirway⟩]) (fun _ _ => True) h ?_ ?_
        · intro t28 h26
          refine kwp_block ?_
          refine kwp_loopE (inv := [(3, .pointer (some p3_8)), (4, .slice q7a v5.length q7c), (5, .int .i64 v10)]) (fun (z : List Int × List Int × Bool × Int) (y : Option Addr × Nat × Nat × Option Addr × Nat × Nat) => [(6, .slice y.1 y.2.1 y.2.2.1), (7, .slice y.2.2.2.1 y.2.2.2.2.1 y.2.2.2.2.2), (8, .bool z.2.2.1), (9, .int .i64 z.2.2.2)]) (fun (z : List Int × List Int × Bool × Int) (y : Option Addr × Nat × Nat × Option Addr × Nat × Nat) => [⟨.slice y.1 y.2.1 y.2.2.1, 1, z.1.map encI⟩, ⟨.slice y.2.2.2.1 y.2.2.2.2.1 y.2.2.2.2.2, 1, z.2.1.map encI⟩, ⟨.pointer (some p3_8), 2, [[.int .i64 v4.p, .slice q61a v4.aw.length q61c]]⟩, ⟨.slice q61a v4.aw.length q61c, 3, v4.aw.map encAirway⟩, ⟨.slice q7a v5.length q7c, 1, v5.map encI⟩]) (fun _ _ => True) h26 ⟨(some a21, 0, 0, some a22, 0, 0), hd_mk trivial⟩ ?_
          intro z35 y36 b33 _ h34
          obtain ⟨back29, twice30, some31, k32⟩ := z35
          obtain ⟨back29a, back29n, back29c, twice30a, twice30n, twice30c⟩ := y36
          refine k_len (c := back29c) (fun hl37 => ?_)
          subst hl37
          refine k_len (c := twice30c) (fun hl38 => ?_)
          subst hl38
          unfold p_laws_FnFlowLoss_L0 at h34
          refine kwp_seq ?_
          refine kwp_seq ?_
          refine kwp_region ?_
          refine kd (v_mv) ?_
          refine kd (v_mv) ?_
          refine kd (v_len Tryd.runUnderlying46) ?_
          refine kd (v_cmp) ?_
          refine kops_nil ?_
          refine kn_then ?_
          refine kwp_cond rfl (fun hc39 => ?_) (fun hc39 => ?_)
          ·
            replace h34 := e_t h34 hc39
            refine kwp_skip ?_
            refine kn_then ?_
            refine kwp_seq ?_
            refine kwp_block ?_
            refine kwp_seq ?_
            refine kwp_region ?_
            refine kd (v_mv) ?_
            refine kd (v_mv) ?_
            refine kd (v_mv) ?_
            obtain ⟨j40, ej40, nj40, h34⟩ := e_idx h34
            refine kd (v_ia ej40 nj40 Tryd.runUnderlying46 Tryd.sizeOf3) ?_
            refine kd (v_ldf nj40 Tryd.isAgg3) ?_
            refine kd (v_neg) ?_
            refine kk (n_lit (enc := encI) [_] ([w64 (-(gx v5 j40))] : List Int) Tryd.runUnderlying46 Tryd.sizeOf3 Tryd.zeroValue3 (fun a41 => ?_))
            obtain ⟨hz42, h34⟩ := e_need h34
            refine kk (n_app (enc := encI) ok_encI hz42 Tryd.underlying46 Tryd.type3 (by decide) (fun a43 c44 => ?_))
            refine kd (v_as) ?_
            refine kops_nil ?_
            refine kn_then ?_
            refine kwp_seq ?_
            refine kwp_region ?_
            refine kd (v_mv) ?_
            refine kd (v_mv) ?_
            refine kd (v_mv) ?_
            refine kd (v_ia ej40 nj40 Tryd.runUnderlying46 Tryd.sizeOf3) ?_
            refine kd (v_ldf nj40 Tryd.isAgg3) ?_
            refine kd (v_mul) ?_
            refine kk (n_lit (enc := encI) [_] ([w64 (2 * (gx v5 j40))] : List Int) Tryd.runUnderlying46 Tryd.sizeOf3 Tryd.zeroValue3 (fun a45 => ?_))
            obtain ⟨hz46, h34⟩ := e_need h34
            refine kk (n_app (enc := encI) ok_encI hz46 Tryd.underlying46 Tryd.type3 (by decide) (fun a47 c48 => ?_))
            refine kd (v_as) ?_
            refine kops_nil ?_
            refine kn_then ?_
            refine kwp_region ?_
            refine kd (v_mv) ?_
            refine kd (v_mv) ?_
            refine kops_split 58 rfl (fun hb49 => ?_) (fun hb49 => ?_)
            ·
              replace h34 := e_t h34 hb49
              refine kskip hb49 ?_
              refine kskip hb49 ?_
              refine kskip hb49 ?_
              refine kskip hb49 ?_
              refine kskip hb49 ?_
              refine kd (v_pt hb49) ?_
              refine kd (v_as) ?_
              refine kops_nil ?_
              refine kn_block ?_
              refine kn_then ?_
              refine kwp_region ?_
              refine kd (v_mv) ?_
              refine kd (v_add) ?_
              refine kd (v_as) ?_
              refine kops_nil ?_
              refine kn_then ?_
              obtain rfl := e_some h34
              exact ⟨_, (a43, (back29 ++ ([w64 (-(gx v5 j40))] : List Int)).length, c44, a47, (twice30 ++ ([w64 (2 * (gx v5 j40))] : List Int)).length, c48), rfl, hd_mk trivial⟩
            ·
              replace h34 := e_f h34 hb49
              refine kgd hb49 (v_mv) ?_
              refine kgd hb49 (v_mv) ?_
              refine kgd hb49 (v_ia ej40 nj40 Tryd.runUnderlying46 Tryd.sizeOf3) ?_
              refine kgd hb49 (v_ldf nj40 Tryd.isAgg3) ?_
              refine kgd hb49 (v_cmp) ?_
              refine kd (v_pf hb49) ?_
              refine kd (v_as) ?_
              refine kops_nil ?_
              refine kn_block ?_
              refine kn_then ?_
              refine kwp_region ?_
              refine kd (v_mv) ?_
              refine kd (v_add) ?_
              refine kd (v_as) ?_
              refine kops_nil ?_
              refine kn_then ?_
              obtain rfl := e_some h34
              exact ⟨_, (a43, (back29 ++ ([w64 (-(gx v5 j40))] : List Int)).length, c44, a47, (twice30 ++ ([w64 (2 * (gx v5 j40))] : List Int)).length, c48), rfl, hd_mk trivial⟩
          ·
            replace h34 := e_f h34 hc39
            refine kwp_exit ?_
            refine ke_then ?_
            obtain rfl := e_some h34
            refine k_out ?_ rfl
            rintro rfl
            refine ke_block ?_
            exact ⟨(back29a, back29.length, back29c, twice30a, twice30.length, twice30c), hd_mk trivial⟩
        · intro z50 y51 _ h52
          obtain ⟨back23, twice24, some25⟩ := z50
          obtain ⟨back23a, back23n, back23c, twice24a, twice24n, twice24c⟩ := y51
          refine k_len (c := back23c) (fun hl53 => ?_)
          subst hl53
          refine k_len (c := twice24c) (fun hl54 => ?_)
          subst hl54
          refine kwp_seq ?_
          refine kwp_region ?_
          refine kd (v_ldB Tryd.isAgg32 Tryd.sizeOf32) ?_
          refine kd (v_mv) ?_
          obtain ⟨v56, hv55, h52⟩ := e_bind h52
          refine kk (n_call Tryd.call33 (w_impl_FlowLoss q61a v4.aw.length q61c back23a back23.length back23c hv55) ?_)
          rintro _ _ ⟨rfl, rfl⟩
          refine kd (v_mv) ?_
          refine kd (v_cmp) ?_
          refine kd (v_mv) ?_
          refine kops_split 70 rfl (fun hb58 => ?_) (fun hb58 => ?_)
          ·
            replace h52 := e_t h52 hb58
            refine kgd hb58 (v_ldB Tryd.isAgg32 Tryd.sizeOf32) ?_
            refine kgd hb58 (v_mv) ?_
            obtain ⟨v60, hv59, h52⟩ := e_bind h52
            refine kgk hb58 (n_call Tryd.call33 (w_impl_FlowLoss q61a v4.aw.length q61c twice24a twice24.length twice24c hv59) ?_)
            rintro _ _ ⟨rfl, rfl⟩
            refine kgd hb58 (v_mv) ?_
            refine kgd hb58 (v_mul) ?_
            refine kgd hb58 (v_cmp) ?_
            refine kd (v_pt hb58) ?_
            refine kd (v_mv) ?_
            refine kops_split 78 rfl (fun hb62 => ?_) (fun hb62 => ?_)
            ·
              replace h52 := e_t h52 hb62
              refine kgd hb62 (v_mv) ?_
              refine kgd hb62 (v_cmp) ?_
              refine kgd hb62 (v_mv) ?_
              refine kgd hb62 (v_eqb Tryd.underlying4) ?_
              refine kd (v_pt hb62) ?_
              refine kd (v_as) ?_
              refine kops_nil ?_
              refine kn_then ?_
              refine kwp_ret ?_
              obtain rfl := e_some h52
              refine r1 [] ?_
              exact ⟨rfl, rfl⟩
            ·
              replace h52 := e_f h52 hb62
              refine kskip hb62 ?_
              refine kskip hb62 ?_
              refine kskip hb62 ?_
              refine kskip hb62 ?_
              refine kd (v_pf hb62) ?_
              refine kd (v_as) ?_
              refine kops_nil ?_
              refine kn_then ?_
              refine kwp_ret ?_
              obtain rfl := e_some h52
              refine r1 [] ?_
              exact ⟨rfl, rfl⟩
          ·
            replace h52 := e_f h52 hb58
            refine kskip hb58 ?_
            refine kskip hb58 ?_
            refine kskip hb58 ?_
            refine kskip hb58 ?_
            refine kskip hb58 ?_
            refine kskip hb58 ?_
            refine kd (v_pf hb58) ?_
            refine kd (v_mv) ?_
            refine kskip rfl ?_
            refine kskip rfl ?_
            refine kskip rfl ?_
            refine kskip rfl ?_
            refine kd (v_pf rfl) ?_
            refine kd (v_as) ?_
            refine kops_nil ?_
            refine kn_then ?_
            refine kwp_ret ?_
            obtain rfl := e_some h52
            refine r1 [] ?_
            exact ⟨rfl, rfl⟩

end Go.Proofs.YtpfijnklnljccaaDoor
