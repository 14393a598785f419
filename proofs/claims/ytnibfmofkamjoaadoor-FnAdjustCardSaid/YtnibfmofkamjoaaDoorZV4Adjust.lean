/- What the plain programs return, the functions of the program return; no condition. -/
import Derived.Test.YtnibfmofkamjoaaDoorZQ
import Derived.Test.YtnibfmofkamjoaaDoorZFa
import Derived.Test.YtnibfmofkamjoaaDoorZVbg
import Derived.Test.YtnibfmofkamjoaaDoorZVbt
import Derived.Test.YtnibfmofkamjoaaDoorZVby
import Derived.Test.YtnibfmofkamjoaaDoorZVbz
import Derived.Test.YtnibfmofkamjoaaDoorZVbc
namespace Go.Proofs.YtnibfmofkamjoaaDoor
open Go
set_option linter.unusedVariables false
set_option linter.unusedSimpArgs false

set_option maxRecDepth 20000 in
theorem w_spec_DrawAdjust (code0a : Option Addr) (code0n : Nat) (code0c : Nat) {code0 : List UInt8} {r : Survey} (h : p_spec_DrawAdjust code0 = some r) :
    Triple Tryd.prog 27 [.slice code0a code0n code0c] [⟨.slice code0a code0n code0c, 1, code0.map encB⟩] [] (fun v ch => ∃ (w01a : Option Addr) (w01c : Nat), v = .agg #[.int .i64 r.st, .slice w01a r.legs.length w01c] ∧ ch = [⟨.slice w01a r.legs.length w01c, 5, r.legs.map encLeg⟩]) := by
  refine triple_start 6 Tryd.func27 Tryd.ntmps27 rfl rfl (fun w0 => ?_)
  refine k_len (c := code0c) (fun hl1 => ?_)
  subst hl1
  unfold p_spec_DrawAdjust at h
  refine kwp_seq ?_
  refine kwp_region ?_
  refine kops_nilchunk 5 (by decide) ?_
  refine kk (n_alloc (e := [.int .i64 0, .slice none 0 0]) 2 Tryd.zeroValue25 (fun p2_2 => ?_))
  refine kops_nil ?_
  refine kn_then ?_
  refine kwp_seq ?_
  refine kwp_region ?_
  refine kd (v_mv) ?_
  obtain ⟨v4, hv3, h⟩ := e_bind h
  refine kk (n_call Tryd.call68 (w_spec_l20Open code0a code0.length code0c hv3) ?_)
  rintro _ _ ⟨q5p, q50a, q50c, rfl, hvwq5, rfl⟩
  obtain ⟨⟨v7, v8⟩, hv6, h⟩ := e_bind h
  refine kk (n_call Tryd.call69 (w_spec_l20Linked q5p q50a v4.b.length q50c hv6) ?_ (hv := (Views.cons (by repeat (first | exact mh | apply mt | apply mas | apply ms)) hvwq5 (Views.nil _))))
  rintro _ _ ⟨q91a, q91c, rfl, rfl⟩
  refine kk (s_B (e' := [.int .i64 v7.st, .slice q91a v7.legs.length q91c]) Tryd.sizeOf25 ?_)
  refine kops_nil ?_
  refine kn_then ?_
  refine kwp_ret ?_
  obtain rfl := e_some h
  refine rc Tryd.isAgg25 Tryd.sizeOf25 [⟨.slice q91a v7.legs.length q91c, 5, v7.legs.map encLeg⟩] ?_
  exact ⟨q91a, q91c, rfl, rfl⟩

set_option maxRecDepth 20000 in
set_option maxHeartbeats 2000000 in
theorem w_laws_FnAdjust (code0a : Option Addr) (code0n : Nat) (code0c : Nat) {code0 : List UInt8} {r : Bool} (h : p_laws_FnAdjust code0 = some r) :
    Triple Tryd.prog 5 [.slice code0a code0n code0c] [⟨.slice code0a code0n code0c, 1, code0.map encB⟩, tabC] [] (fun v ch => v = .bool r ∧ ch = []) := by
  refine triple_start 111 Tryd.func5 Tryd.ntmps5 rfl rfl (fun w0 => ?_)
  refine k_len (c := code0c) (fun hl1 => ?_)
  subst hl1
  unfold p_laws_FnAdjust at h
  refine kwp_seq ?_
  refine kwp_region ?_
  refine kd (v_as) ?_
  refine kops_nil ?_
  refine kn_then ?_
  refine kwp_seq ?_
  refine kwp_seq ?_
  refine kwp_region ?_
  refine kd (v_mv) ?_
  refine kd (v_len Tryd.runUnderlying22) ?_
  refine kd (v_cmp) ?_
  refine kops_nil ?_
  refine kn_then ?_
  refine kwp_cond rfl (fun hc2 => ?_) (fun hc2 => ?_)
  ·
    replace h := e_t h hc2
    refine kwp_seq ?_
    refine kwp_region ?_
    refine kd (v_as) ?_
    refine kops_nil ?_
    refine kn_then ?_
    refine kwp_ret ?_
    refine kr_then ?_
    obtain rfl := e_some h
    refine r1 [] ?_
    exact ⟨rfl, rfl⟩
  ·
    replace h := e_f h hc2
    refine kwp_skip ?_
    refine kn_then ?_
    refine kwp_seq ?_
    refine kwp_region ?_
    refine kd (v_mv) ?_
    obtain ⟨v4, hv3, h⟩ := e_bind h
    refine kk (n_call Tryd.call27 (w_spec_DrawAdjust code0a code0.length code0c hv3) ?_)
    rintro _ _ ⟨q51a, q51c, rfl, rfl⟩
    refine kops_nilchunk 5 (by decide) ?_
    refine kk (n_alloc (e := [.int .i64 0, .slice none 0 0]) 2 Tryd.zeroValue25 (fun p3_6 => ?_))
    refine kk (s_B (e' := [.int .i64 v4.st, .slice q51a v4.legs.length q51c]) Tryd.sizeOf25 ?_)
    refine kops_nil ?_
    refine kn_then ?_
    refine kwp_seq ?_
    refine kwp_region ?_
    refine kd (v_ldB Tryd.isAgg25 Tryd.sizeOf25) ?_
    obtain ⟨⟨v8, v9⟩, hv7, h⟩ := e_bind h
    refine kk (n_call Tryd.call21 (w_impl_Adjust q51a v4.legs.length q51c hv7) ?_)
    rintro _ _ ⟨q101a, q101c, rfl, rfl⟩
    refine kd (v_mv) ?_
    refine kd (v_ex) ?_
    refine kd (v_ex) ?_
    refine kops_nilchunk 3 (by decide) ?_
    refine kk (n_alloc (e := [.int .i64 0, .slice none 0 0]) 2 Tryd.zeroValue31 (fun p4_12 => ?_))
    refine kk (s_B (e' := [.int .i64 v8.den, .slice q101a v8.nums.length q101c]) Tryd.sizeOf31 ?_)
    refine kd (v_as) ?_
    refine kops_nil ?_
    refine kn_then ?_
    refine kwp_seq ?_
    refine kwp_region ?_
    refine kd (v_ldB Tryd.isAgg25 Tryd.sizeOf25) ?_
    obtain ⟨⟨v14, v15⟩, hv13, h⟩ := e_bind h
    refine kk (n_call Tryd.call28 (w_spec_Adjust q51a v4.legs.length q51c hv13) ?_)
    rintro _ _ ⟨q161a, q161c, rfl, rfl⟩
    refine kd (v_mv) ?_
    refine kd (v_ex) ?_
    refine kd (v_ex) ?_
    refine kops_nilchunk 3 (by decide) ?_
    refine kk (n_alloc (e := [.int .i64 0, .slice none 0 0]) 2 Tryd.zeroValue31 (fun p6_18 => ?_))
    refine kk (s_B (e' := [.int .i64 v14.den, .slice q161a v14.nums.length q161c]) Tryd.sizeOf31 ?_)
    refine kd (v_as) ?_
    refine kops_nil ?_
    refine kn_then ?_
    refine kwp_seq ?_
    refine kwp_seq ?_
    refine kwp_cutE (inv := [(3, .pointer (some p3_6)), (4, .pointer (some p4_12)), (5, .bool v9)]) (fun (z : Bool) (y : Unit) => [(36, .bool z)]) (fun (z : Bool) (y : Unit) => [⟨.pointer (some p3_6), 2, [[.int .i64 v4.st, .slice q51a v4.legs.length q51c]]⟩, ⟨.slice q51a v4.legs.length q51c, 5, v4.legs.map encLeg⟩, ⟨.pointer (some p4_12), 2, [[.int .i64 v8.den, .slice q101a v8.nums.length q101c]]⟩, ⟨.slice q101a v8.nums.length q101c, 3, v8.nums.map encWay⟩]) (fun _ _ => True) h ?_ ?_
    · intro t22 h20
      refine kwp_region ?_
      refine kd (v_ldB Tryd.isAgg31 Tryd.sizeOf31) ?_
      refine kd (v_ldB Tryd.isAgg31 Tryd.sizeOf31) ?_
      obtain ⟨v24, hv23, h20⟩ := e_bind h20
      refine kk (n_call Tryd.call18 (w_laws_sameFix q101a v8.nums.length q101c q161a v14.nums.length q161c hv23) ?_)
      rintro _ _ ⟨rfl, rfl⟩
      refine kd (v_not) ?_
      refine kd (v_mv) ?_
      refine kops_split 32 rfl (fun hb26 => ?_) (fun hb26 => ?_)
      ·
        replace h20 := e_t h20 hb26
        refine kskip hb26 ?_
        refine kskip hb26 ?_
        refine kskip hb26 ?_
        refine kd (v_pt hb26) ?_
        refine kops_nil ?_
        refine kn_then ?_
        obtain rfl := e_some h20
        exact ⟨(), hd_mk trivial⟩
      ·
        replace h20 := e_f h20 hb26
        refine kgd hb26 (v_mv) ?_
        refine kgd hb26 (v_mv) ?_
        refine kgd hb26 (v_neb Tryd.underlying4) ?_
        refine kd (v_pf hb26) ?_
        refine kops_nil ?_
        refine kn_then ?_
        obtain rfl := e_some h20
        exact ⟨(), hd_mk trivial⟩
    · intro x19 y28 _ h29
      refine kn_then ?_
      refine kwp_cond rfl (fun hc30 => ?_) (fun hc30 => ?_)
      ·
        replace h29 := e_t h29 hc30
        refine kwp_seq ?_
        refine kwp_region ?_
        refine kd (v_as) ?_
        refine kops_nil ?_
        refine kn_then ?_
        refine kwp_ret ?_
        refine kr_then ?_
        obtain rfl := e_some h29
        refine r1 [] ?_
        exact ⟨rfl, rfl⟩
      ·
        replace h29 := e_f h29 hc30
        refine kwp_skip ?_
        refine kn_then ?_
        refine kwp_seq ?_
        refine kwp_seq ?_
        refine kwp_region ?_
        refine kd (v_mv) ?_
        refine kd (v_not) ?_
        refine kops_nil ?_
        refine kn_then ?_
        refine kwp_cond rfl (fun hc31 => ?_) (fun hc31 => ?_)
        ·
          replace h29 := e_t h29 hc31
          refine kwp_seq ?_
          refine kwp_region ?_
          refine kd (v_ldB Tryd.isAgg25 Tryd.sizeOf25) ?_
          obtain ⟨v33, hv32, h29⟩ := e_bind h29
          refine kk (n_call Tryd.call29 (w_impl_SurveyValid q51a v4.legs.length q51c hv32) ?_)
          rintro _ _ ⟨rfl, rfl⟩
          refine kd (v_not) ?_
          refine kd (v_mv) ?_
          refine kops_split 42 rfl (fun hb35 => ?_) (fun hb35 => ?_)
          ·
            replace h29 := e_t h29 hb35
            refine kskip hb35 ?_
            refine kskip hb35 ?_
            refine kskip hb35 ?_
            refine kd (v_pt hb35) ?_
            refine kd (v_mv) ?_
            obtain ⟨v37, hv36, h29⟩ := e_bind h29
            refine kgk rfl (n_call Tryd.call19 (w_laws_alive hv36) ?_)
            rintro _ _ ⟨rfl, rfl⟩
            refine kd (v_pt rfl) ?_
            refine kd (v_as) ?_
            refine kops_nil ?_
            refine kn_then ?_
            refine kwp_ret ?_
            refine kr_then ?_
            obtain rfl := e_some h29
            refine r1 [] ?_
            exact ⟨rfl, rfl⟩
          ·
            replace h29 := e_f h29 hb35
            refine kgd hb35 (v_ldB Tryd.isAgg25 Tryd.sizeOf25) ?_
            obtain ⟨v40, hv39, h29⟩ := e_bind h29
            refine kgk hb35 (n_call Tryd.call30 (w_impl_PartsMany q51a v4.legs.length q51c hv39) ?_)
            rintro _ _ ⟨rfl, rfl⟩
            refine kgd hb35 (v_cmp) ?_
            refine kd (v_pf hb35) ?_
            refine kd (v_mv) ?_
            refine kops_split 47 rfl (fun hb42 => ?_) (fun hb42 => ?_)
            ·
              replace h29 := e_t h29 hb42
              obtain ⟨v44, hv43, h29⟩ := e_bind h29
              refine kgk hb42 (n_call Tryd.call19 (w_laws_alive hv43) ?_)
              rintro _ _ ⟨rfl, rfl⟩
              refine kd (v_pt hb42) ?_
              refine kd (v_as) ?_
              refine kops_nil ?_
              refine kn_then ?_
              refine kwp_ret ?_
              refine kr_then ?_
              obtain rfl := e_some h29
              refine r1 [] ?_
              exact ⟨rfl, rfl⟩
            ·
              replace h29 := e_f h29 hb42
              refine kskip hb42 ?_
              refine kd (v_pf hb42) ?_
              refine kd (v_as) ?_
              refine kops_nil ?_
              refine kn_then ?_
              refine kwp_ret ?_
              refine kr_then ?_
              obtain rfl := e_some h29
              refine r1 [] ?_
              exact ⟨rfl, rfl⟩
        ·
          replace h29 := e_f h29 hc31
          refine kwp_skip ?_
          refine kn_then ?_
          refine kwp_seq ?_
          refine kwp_seq ?_
          refine kwp_region ?_
          refine kd (v_as) ?_
          refine kops_nil ?_
          refine kn_then ?_
          refine kwp_cutO (inv := [(3, .pointer (some p3_6)), (4, .pointer (some p4_12))]) (fun (z : Unit) (y : Unit) => []) (fun (z : Unit) (y : Unit) => [⟨.pointer (some p3_6), 2, [[.int .i64 v4.st, .slice q51a v4.legs.length q51c]]⟩, ⟨.slice q51a v4.legs.length q51c, 5, v4.legs.map encLeg⟩, ⟨.pointer (some p4_12), 2, [[.int .i64 v8.den, .slice q101a v8.nums.length q101c]]⟩, ⟨.slice q101a v8.nums.length q101c, 3, v8.nums.map encWay⟩]) (fun _ _ => True) h29 ?_ ?_
          · intro t48 h46 g47
            refine kwp_block ?_
            refine kwp_loopE (inv := [(3, .pointer (some p3_6)), (4, .pointer (some p4_12))]) (fun (z : Int) (y : Unit) => [(8, .int .i64 z)]) (fun (z : Int) (y : Unit) => [⟨.pointer (some p3_6), 2, [[.int .i64 v4.st, .slice q51a v4.legs.length q51c]]⟩, ⟨.slice q51a v4.legs.length q51c, 5, v4.legs.map encLeg⟩, ⟨.pointer (some p4_12), 2, [[.int .i64 v8.den, .slice q101a v8.nums.length q101c]]⟩, ⟨.slice q101a v8.nums.length q101c, 3, v8.nums.map encWay⟩]) (fun _ _ => True) h46 ⟨(), hd_mk trivial⟩ ?_
            intro station49 y53 b50 _ h51
            unfold p_laws_FnAdjust_L0 at h51
            refine kwp_seq ?_
            refine kwp_seq ?_
            refine kwp_region ?_
            refine kd (v_mv) ?_
            refine kd (v_fb fa_25_0) ?_
            refine kd (v_ldb Tryd.isAgg3) ?_
            refine kd (v_cmp) ?_
            refine kops_nil ?_
            refine kn_then ?_
            refine kwp_cond rfl (fun hc54 => ?_) (fun hc54 => ?_)
            ·
              replace h51 := e_t h51 hc54
              refine kwp_skip ?_
              refine kn_then ?_
              refine kwp_seq ?_
              refine kwp_block ?_
              refine kwp_seq ?_
              refine kwp_region ?_
              refine kd (v_bd [] [.int .i64 0, .int .i64 0, .int .i64 0] Tryd.zeroValue37 Tryd.runUnderlying37 pl_37) ?_
              refine kk (n_alloc (e := [.int .i64 0, .int .i64 0, .int .i64 0]) 3 Tryd.zeroValue37 (fun p9_55 => ?_))
              refine kk (s_B (e' := [.int .i64 0, .int .i64 0, .int .i64 0]) Tryd.sizeOf37 ?_)
              refine kops_nil ?_
              refine kn_then ?_
              refine kwp_seq ?_
              refine kwp_seq ?_
              refine kwp_region ?_
              refine kd (v_as) ?_
              refine kops_nil ?_
              refine kn_then ?_
              refine kwp_cutE (inv := [(3, .pointer (some p3_6)), (4, .pointer (some p4_12)), (8, .int .i64 station49), (9, .pointer (some p9_55))]) (fun (z : Int × Int × Int) (y : Unit) => []) (fun (z : Int × Int × Int) (y : Unit) => [⟨.pointer (some p9_55), 3, [[.int .i64 z.1, .int .i64 z.2.1, .int .i64 z.2.2]]⟩, ⟨.pointer (some p3_6), 2, [[.int .i64 v4.st, .slice q51a v4.legs.length q51c]]⟩, ⟨.slice q51a v4.legs.length q51c, 5, v4.legs.map encLeg⟩, ⟨.pointer (some p4_12), 2, [[.int .i64 v8.den, .slice q101a v8.nums.length q101c]]⟩, ⟨.slice q101a v8.nums.length q101c, 3, v8.nums.map encWay⟩]) (fun _ _ => True) h51 ?_ ?_
              · intro t61 h59
                refine kwp_block ?_
                refine kwp_loopE (inv := [(3, .pointer (some p3_6)), (4, .pointer (some p4_12)), (8, .int .i64 station49), (9, .pointer (some p9_55))]) (fun (z : Int × Int × Int × Int) (y : Unit) => [(10, .int .i64 z.1)]) (fun (z : Int × Int × Int × Int) (y : Unit) => [⟨.pointer (some p9_55), 3, [[.int .i64 z.2.1, .int .i64 z.2.2.1, .int .i64 z.2.2.2]]⟩, ⟨.pointer (some p3_6), 2, [[.int .i64 v4.st, .slice q51a v4.legs.length q51c]]⟩, ⟨.slice q51a v4.legs.length q51c, 5, v4.legs.map encLeg⟩, ⟨.pointer (some p4_12), 2, [[.int .i64 v8.den, .slice q101a v8.nums.length q101c]]⟩, ⟨.slice q101a v8.nums.length q101c, 3, v8.nums.map encWay⟩]) (fun _ _ => True) h59 ⟨(), hd_mk trivial⟩ ?_
                intro z68 y69 b66 _ h67
                obtain ⟨k62, e63, n64, u65⟩ := z68
                unfold p_laws_FnAdjust_L1 at h67
                refine kwp_seq ?_
                refine kwp_seq ?_
                refine kwp_region ?_
                refine kd (v_mv) ?_
                refine kd (v_fb fa_25_1) ?_
                refine kd (v_ldb Tryd.isAgg23) ?_
                refine kd (v_len Tryd.runUnderlying23) ?_
                refine kd (v_cmp) ?_
                refine kops_nil ?_
                refine kn_then ?_
                refine kwp_cond rfl (fun hc70 => ?_) (fun hc70 => ?_)
                ·
                  replace h67 := e_t h67 hc70
                  refine kwp_skip ?_
                  refine kn_then ?_
                  refine kwp_seq ?_
                  refine kwp_block ?_
                  refine kwp_seq ?_
                  refine kwp_region ?_
                  refine kd (v_ldB Tryd.isAgg25 Tryd.sizeOf25) ?_
                  refine kd (v_ldB Tryd.isAgg31 Tryd.sizeOf31) ?_
                  refine kd (v_mv) ?_
                  obtain ⟨⟨v72, v73⟩, hv71, h67⟩ := e_bind h67
                  refine kk (n_call Tryd.call20 (w_impl_FixMiss q51a v4.legs.length q51c q101a v8.nums.length q101c hv71) ?_)
                  rintro _ _ ⟨rfl, rfl⟩
                  refine kd (v_mv) ?_
                  refine kd (v_ex) ?_
                  refine kd (v_ex) ?_
                  refine kk (n_alloc (e := [.int .i64 0, .int .i64 0, .int .i64 0]) 3 Tryd.zeroValue37 (fun p11_76 => ?_))
                  refine kk (s_B (e' := [.int .i64 v72.e, .int .i64 v72.n, .int .i64 v72.u]) Tryd.sizeOf37 ?_)
                  refine kd (v_as) ?_
                  refine kops_nil ?_
                  refine kn_then ?_
                  refine kwp_seq ?_
                  refine kwp_seq ?_
                  refine kwp_region ?_
                  refine kd (v_fb fa_25_1) ?_
                  refine kd (v_ldb Tryd.isAgg23) ?_
                  refine kd (v_mv) ?_
                  obtain ⟨j77, ej77, nj77, h67⟩ := e_idx h67
                  refine kd (v_ia ej77 nj77 Tryd.runUnderlying23 Tryd.sizeOf48) ?_
                  refine kd (v_fa nj77 fa_48_1) ?_
                  refine kd (v_ldf nj77 Tryd.isAgg3) ?_
                  refine kd (v_mv) ?_
                  refine kd (v_cmp) ?_
                  refine kops_nil ?_
                  refine kn_then ?_
                  refine kwp_cutE (inv := [(3, .pointer (some p3_6)), (4, .pointer (some p4_12)), (8, .int .i64 station49), (9, .pointer (some p9_55)), (10, .int .i64 k62), (11, .pointer (some p11_76))]) (fun (z : Int × Int × Int) (y : Unit) => []) (fun (z : Int × Int × Int) (y : Unit) => [⟨.pointer (some p9_55), 3, [[.int .i64 z.1, .int .i64 z.2.1, .int .i64 z.2.2]]⟩, ⟨.pointer (some p3_6), 2, [[.int .i64 v4.st, .slice q51a v4.legs.length q51c]]⟩, ⟨.slice q51a v4.legs.length q51c, 5, v4.legs.map encLeg⟩, ⟨.pointer (some p4_12), 2, [[.int .i64 v8.den, .slice q101a v8.nums.length q101c]]⟩, ⟨.slice q101a v8.nums.length q101c, 3, v8.nums.map encWay⟩, ⟨.pointer (some p11_76), 3, [[.int .i64 v72.e, .int .i64 v72.n, .int .i64 v72.u]]⟩]) (fun _ _ => True) h67 ?_ ?_
                  · intro t83 h81
                    refine kwp_cond rfl (fun hc84 => ?_) (fun hc84 => ?_)
                    ·
                      replace h81 := e_t h81 hc84
                      refine kwp_region ?_
                      refine kd (v_ldB Tryd.isAgg37 Tryd.sizeOf37) ?_
                      refine kd (v_ldB Tryd.isAgg37 Tryd.sizeOf37) ?_
                      obtain ⟨v86, hv85, h81⟩ := e_bind h81
                      refine kk (n_call Tryd.call31 (w_impl_WayAdd hv85) ?_)
                      rintro _ _ ⟨rfl, rfl⟩
                      refine kk (s_B (e' := [.int .i64 v86.e, .int .i64 v86.n, .int .i64 v86.u]) Tryd.sizeOf37 ?_)
                      refine kops_nil ?_
                      refine kn_then ?_
                      obtain rfl := e_some h81
                      exact ⟨(), hd_mk trivial⟩
                    ·
                      replace h81 := e_f h81 hc84
                      refine kwp_skip ?_
                      refine kn_then ?_
                      obtain rfl := e_some h81
                      exact ⟨(), hd_mk trivial⟩
                  · intro z88 y89 _ h90
                    obtain ⟨e78, n79, u80⟩ := z88
                    refine kn_then ?_
                    refine kwp_seq ?_
                    refine kwp_region ?_
                    refine kd (v_fb fa_25_1) ?_
                    refine kd (v_ldb Tryd.isAgg23) ?_
                    refine kd (v_mv) ?_
                    obtain ⟨j91, ej91, nj91, h90⟩ := e_idx h90
                    refine kd (v_ia ej91 nj91 Tryd.runUnderlying23 Tryd.sizeOf48) ?_
                    refine kd (v_fa nj91 fa_48_0) ?_
                    refine kd (v_ldf nj91 Tryd.isAgg3) ?_
                    refine kd (v_mv) ?_
                    refine kd (v_cmp) ?_
                    refine kops_nil ?_
                    refine kn_then ?_
                    refine kwp_cond rfl (fun hc92 => ?_) (fun hc92 => ?_)
                    ·
                      replace h90 := e_t h90 hc92
                      obtain ⟨v94, hv93, h90⟩ := e_bind h90
                      obtain ⟨v97, hv96, h90⟩ := e_bind h90
                      refine kwp_tree (.quiet 0 (.quiet 1 (.one 2 (.one 3 (.one 4 .stop))))) [4] [⟨.pointer (some p9_55), 3, [[.int .i64 e78, .int .i64 n79, .int .i64 u80]]⟩, ⟨.pointer (some p11_76), 3, [[.int .i64 v72.e, .int .i64 v72.n, .int .i64 v72.u]]⟩] drawMixed (by kernel_rfl) nopan (by (repeat (first | exact Sub.refl _ | exact Sub.nil _ | refine Sub.chunk (by repeat (first | exact Pick.here | apply Pick.there | apply Pick.seg)) (by rfl) ?_ | refine Sub.seg (by repeat (first | exact PickSeg.here | exact PickSeg.all | apply PickSeg.there | apply PickSeg.seg)) ?_ | exact Sub.seg0 (by repeat (first | exact PickSeg.here | exact PickSeg.all | apply PickSeg.there | apply PickSeg.seg)) | apply Sub.assoc))) ?_
                      refine kt_d rfl rfl rfl (v_ldB Tryd.isAgg37 Tryd.sizeOf37) ?_
                      refine kt_d rfl rfl rfl (v_ldB Tryd.isAgg37 Tryd.sizeOf37) ?_
                      refine kt_one ?_
                      refine kl_k rfl rfl (n_call Tryd.call32 (w_impl_WayTimes hv93) ?_)
                      rintro _ _ ⟨rfl, rfl⟩
                      refine ⟨.inl (by (repeat (first | exact Sub.refl _ | exact Sub.nil _ | refine Sub.chunk (by repeat (first | exact Pick.here | apply Pick.there | apply Pick.seg)) (by rfl) ?_ | refine Sub.seg (by repeat (first | exact PickSeg.here | exact PickSeg.all | apply PickSeg.there | apply PickSeg.seg)) ?_ | exact Sub.seg0 (by repeat (first | exact PickSeg.here | exact PickSeg.all | apply PickSeg.there | apply PickSeg.seg)) | apply Sub.assoc))), ?_⟩
                      refine kt_one ?_
                      refine kl_k rfl rfl (n_call Tryd.call31 (w_impl_WayAdd hv96) ?_)
                      rintro _ _ ⟨rfl, rfl⟩
                      refine ⟨.inl (by (repeat (first | exact Sub.refl _ | exact Sub.nil _ | refine Sub.chunk (by repeat (first | exact Pick.here | apply Pick.there | apply Pick.seg)) (by rfl) ?_ | refine Sub.seg (by repeat (first | exact PickSeg.here | exact PickSeg.all | apply PickSeg.there | apply PickSeg.seg)) ?_ | exact Sub.seg0 (by repeat (first | exact PickSeg.here | exact PickSeg.all | apply PickSeg.there | apply PickSeg.seg)) | apply Sub.assoc))), ?_⟩
                      refine kt_one ?_
                      refine kl_k rfl rfl (s_B (e' := [.int .i64 v97.e, .int .i64 v97.n, .int .i64 v97.u]) Tryd.sizeOf37 ?_)
                      refine ⟨.inr ⟨by decide, rfl⟩, ?_⟩
                      refine kt_nil ?_
                      refine kn_block ?_
                      refine kn_then ?_
                      refine kwp_region ?_
                      refine kd (v_mv) ?_
                      refine kd (v_add) ?_
                      refine kd (v_as) ?_
                      refine kops_nil ?_
                      refine kn_then ?_
                      obtain rfl := e_some h90
                      exact ⟨_, (), rfl, hd_mk trivial⟩
                    ·
                      replace h90 := e_f h90 hc92
                      refine kwp_skip ?_
                      refine kn_block ?_
                      refine kn_then ?_
                      refine kwp_region ?_
                      refine kd (v_mv) ?_
                      refine kd (v_add) ?_
                      refine kd (v_as) ?_
                      refine kops_nil ?_
                      refine kn_then ?_
                      obtain rfl := e_some h90
                      exact ⟨_, (), rfl, hd_mk trivial⟩
                ·
                  replace h67 := e_f h67 hc70
                  refine kwp_exit ?_
                  refine ke_then ?_
                  obtain rfl := e_some h67
                  refine k_out ?_ rfl
                  rintro rfl
                  refine ke_block ?_
                  exact ⟨(), hd_mk trivial⟩
              · intro z99 y100 _ h101
                obtain ⟨e56, n57, u58⟩ := z99
                refine kn_then ?_
                refine kwp_seq ?_
                refine kwp_region ?_
                refine kd (v_ldB Tryd.isAgg37 Tryd.sizeOf37) ?_
                refine kd (v_bd [] [.int .i64 0, .int .i64 0, .int .i64 0] Tryd.zeroValue37 Tryd.runUnderlying37 pl_37) ?_
                refine kd (v_nea eg_37 he_37 hp_37 (eqf_37 _ _ _ _ _ _)) ?_
                refine kops_nil ?_
                refine kn_then ?_
                refine kwp_cond rfl (fun hc102 => ?_) (fun hc102 => ?_)
                ·
                  replace h101 := e_t h101 hc102
                  refine kwp_seq ?_
                  refine kwp_region ?_
                  refine kd (v_as) ?_
                  refine kops_nil ?_
                  refine kn_then ?_
                  refine kwp_ret ?_
                  refine kr_block ?_
                  refine kr_then ?_
                  refine kr_then ?_
                  obtain rfl := e_some h101
                  refine k_out ?_ rfl
                  rintro rfl
                  refine kr_block ?_
                  refine kr_then ?_
                  refine kr_then ?_
                  obtain rfl := e_some g47
                  refine r1 [] ?_
                  exact ⟨rfl, rfl⟩
                ·
                  replace h101 := e_f h101 hc102
                  refine kwp_skip ?_
                  refine kn_block ?_
                  refine kn_then ?_
                  refine kwp_region ?_
                  refine kd (v_mv) ?_
                  refine kd (v_add) ?_
                  refine kd (v_as) ?_
                  refine kops_nil ?_
                  refine kn_then ?_
                  obtain rfl := e_some h101
                  exact ⟨_, (), rfl, hd_mk trivial⟩
            ·
              replace h51 := e_f h51 hc54
              refine kwp_exit ?_
              refine ke_then ?_
              obtain rfl := e_some h51
              refine k_out ?_ rfl
              rintro rfl
              refine ke_block ?_
              exact ⟨_, (), rfl, hd_mk trivial⟩
          · intro z103 y104 _ h105
            refine kn_then ?_
            refine kwp_seq ?_
            obtain ⟨v107, hv106, h105⟩ := e_bind h105
            refine sp (v8.den == v107) (fun hb109 => ?_) (fun hb109 => ?_)
            ·
              replace h105 := e_t h105 hb109
              obtain ⟨v111, hv110, h105⟩ := e_bind h105
              obtain ⟨v114, hv113, h105⟩ := e_bind h105
              refine kwp_tree (.quiet 0 (.quiet 1 (.quiet 2 (.one 3 (.quiet 4 (.quiet 5 (.quiet 6 (.quiet 7 (.quiet 10 (.one 8 (.quiet 9 (.one 11 (.quiet 12 (.quiet 13 (.quiet 14 .stop))))))))))))))) [] [⟨.pointer (some p3_6), 2, [[.int .i64 v4.st, .slice q51a v4.legs.length q51c]]⟩, ⟨.pointer (some p4_12), 2, [[.int .i64 v8.den, .slice q101a v8.nums.length q101c]]⟩] drawMixed (by kernel_rfl) nopan (by (repeat (first | exact Sub.refl _ | exact Sub.nil _ | refine Sub.chunk (by repeat (first | exact Pick.here | apply Pick.there | apply Pick.seg)) (by rfl) ?_ | refine Sub.seg (by repeat (first | exact PickSeg.here | exact PickSeg.all | apply PickSeg.there | apply PickSeg.seg)) ?_ | exact Sub.seg0 (by repeat (first | exact PickSeg.here | exact PickSeg.all | apply PickSeg.there | apply PickSeg.seg)) | apply Sub.assoc))) ?_
              refine kt_d rfl rfl rfl (v_fb fa_31_0) ?_
              refine kt_d rfl rfl rfl (v_ldb Tryd.isAgg3) ?_
              refine kt_d rfl rfl rfl (v_ldB Tryd.isAgg25 Tryd.sizeOf25) ?_
              refine kt_one ?_
              refine kl_k rfl rfl (n_call Tryd.call33 (w_impl_TreesMany q51a v4.legs.length q51c hv106) ?_)
              rintro _ _ ⟨rfl, rfl⟩
              refine ⟨.inl (by (repeat (first | exact Sub.refl _ | exact Sub.nil _ | refine Sub.chunk (by repeat (first | exact Pick.here | apply Pick.there | apply Pick.seg)) (by rfl) ?_ | refine Sub.seg (by repeat (first | exact PickSeg.here | exact PickSeg.all | apply PickSeg.there | apply PickSeg.seg)) ?_ | exact Sub.seg0 (by repeat (first | exact PickSeg.here | exact PickSeg.all | apply PickSeg.there | apply PickSeg.seg)) | apply Sub.assoc))), ?_⟩
              refine kt_d rfl rfl rfl (v_cmp) ?_
              refine kt_d rfl rfl rfl (v_mv) ?_
              refine kt_gv rfl rfl rfl rfl hb109 (v_ldB Tryd.isAgg25 Tryd.sizeOf25) ?_
              refine kt_gv rfl rfl rfl rfl hb109 (v_ldB Tryd.isAgg31 Tryd.sizeOf31) ?_
              refine kt_gv rfl rfl rfl rfl hb109 (v_ldB Tryd.isAgg25 Tryd.sizeOf25) ?_
              refine kt_one ?_
              refine kl_gk rfl rfl rfl rfl hb109 (n_call Tryd.call23 (w_impl_FixSum q51a v4.legs.length q51c q101a v8.nums.length q101c hv110) ?_)
              rintro _ _ ⟨rfl, rfl⟩
              refine ⟨.inl (by (repeat (first | exact Sub.refl _ | exact Sub.nil _ | refine Sub.chunk (by repeat (first | exact Pick.here | apply Pick.there | apply Pick.seg)) (by rfl) ?_ | refine Sub.seg (by repeat (first | exact PickSeg.here | exact PickSeg.all | apply PickSeg.there | apply PickSeg.seg)) ?_ | exact Sub.seg0 (by repeat (first | exact PickSeg.here | exact PickSeg.all | apply PickSeg.there | apply PickSeg.seg)) | apply Sub.assoc))), ?_⟩
              refine kt_gv rfl rfl rfl rfl hb109 (v_cmp) ?_
              refine kt_one ?_
              refine kl_gk rfl rfl rfl rfl hb109 (n_call Tryd.call34 (w_impl_Closes q51a v4.legs.length q51c hv113) ?_)
              rintro _ _ ⟨rfl, rfl⟩
              refine ⟨.inl (by (repeat (first | exact Sub.refl _ | exact Sub.nil _ | refine Sub.chunk (by repeat (first | exact Pick.here | apply Pick.there | apply Pick.seg)) (by rfl) ?_ | refine Sub.seg (by repeat (first | exact PickSeg.here | exact PickSeg.all | apply PickSeg.there | apply PickSeg.seg)) ?_ | exact Sub.seg0 (by repeat (first | exact PickSeg.here | exact PickSeg.all | apply PickSeg.there | apply PickSeg.seg)) | apply Sub.assoc))), ?_⟩
              refine kt_gv rfl rfl rfl rfl hb109 (v_eqb Tryd.underlying4) ?_
              refine kt_d rfl rfl rfl (v_pt hb109) ?_
              refine kt_d rfl rfl rfl (v_as) ?_
              refine kt_nil ?_
              refine kn_then ?_
              refine kwp_ret ?_
              obtain rfl := e_some h105
              refine r1 [] ?_
              exact ⟨rfl, rfl⟩
            ·
              replace h105 := e_f h105 hb109
              refine kwp_tree (.quiet 0 (.quiet 1 (.quiet 2 (.one 3 (.quiet 4 (.quiet 5 (.quiet 6 (.quiet 7 (.quiet 10 (.one 8 (.quiet 9 (.one 11 (.quiet 12 (.quiet 13 (.quiet 14 .stop))))))))))))))) [] [⟨.pointer (some p3_6), 2, [[.int .i64 v4.st, .slice q51a v4.legs.length q51c]]⟩, ⟨.pointer (some p4_12), 2, [[.int .i64 v8.den, .slice q101a v8.nums.length q101c]]⟩] drawMixed (by kernel_rfl) nopan (by (repeat (first | exact Sub.refl _ | exact Sub.nil _ | refine Sub.chunk (by repeat (first | exact Pick.here | apply Pick.there | apply Pick.seg)) (by rfl) ?_ | refine Sub.seg (by repeat (first | exact PickSeg.here | exact PickSeg.all | apply PickSeg.there | apply PickSeg.seg)) ?_ | exact Sub.seg0 (by repeat (first | exact PickSeg.here | exact PickSeg.all | apply PickSeg.there | apply PickSeg.seg)) | apply Sub.assoc))) ?_
              refine kt_d rfl rfl rfl (v_fb fa_31_0) ?_
              refine kt_d rfl rfl rfl (v_ldb Tryd.isAgg3) ?_
              refine kt_d rfl rfl rfl (v_ldB Tryd.isAgg25 Tryd.sizeOf25) ?_
              refine kt_one ?_
              refine kl_k rfl rfl (n_call Tryd.call33 (w_impl_TreesMany q51a v4.legs.length q51c hv106) ?_)
              rintro _ _ ⟨rfl, rfl⟩
              refine ⟨.inl (by (repeat (first | exact Sub.refl _ | exact Sub.nil _ | refine Sub.chunk (by repeat (first | exact Pick.here | apply Pick.there | apply Pick.seg)) (by rfl) ?_ | refine Sub.seg (by repeat (first | exact PickSeg.here | exact PickSeg.all | apply PickSeg.there | apply PickSeg.seg)) ?_ | exact Sub.seg0 (by repeat (first | exact PickSeg.here | exact PickSeg.all | apply PickSeg.there | apply PickSeg.seg)) | apply Sub.assoc))), ?_⟩
              refine kt_d rfl rfl rfl (v_cmp) ?_
              refine kt_d rfl rfl rfl (v_mv) ?_
              refine kt_skip rfl rfl rfl rfl hb109 ?_
              refine kt_skip rfl rfl rfl rfl hb109 ?_
              refine kt_skip rfl rfl rfl rfl hb109 ?_
              refine kt_one ?_
              refine kl_skip rfl rfl rfl rfl hb109 (by (repeat (first | exact Sub.refl _ | exact Sub.nil _ | refine Sub.chunk (by repeat (first | exact Pick.here | apply Pick.there | apply Pick.seg)) (by rfl) ?_ | refine Sub.seg (by repeat (first | exact PickSeg.here | exact PickSeg.all | apply PickSeg.there | apply PickSeg.seg)) ?_ | exact Sub.seg0 (by repeat (first | exact PickSeg.here | exact PickSeg.all | apply PickSeg.there | apply PickSeg.seg)) | apply Sub.assoc))) ?_
              refine kt_skip rfl rfl rfl rfl hb109 ?_
              refine kt_one ?_
              refine kl_skip rfl rfl rfl rfl hb109 (by (repeat (first | exact Sub.refl _ | exact Sub.nil _ | refine Sub.chunk (by repeat (first | exact Pick.here | apply Pick.there | apply Pick.seg)) (by rfl) ?_ | refine Sub.seg (by repeat (first | exact PickSeg.here | exact PickSeg.all | apply PickSeg.there | apply PickSeg.seg)) ?_ | exact Sub.seg0 (by repeat (first | exact PickSeg.here | exact PickSeg.all | apply PickSeg.there | apply PickSeg.seg)) | apply Sub.assoc))) ?_
              refine kt_skip rfl rfl rfl rfl hb109 ?_
              refine kt_d rfl rfl rfl (v_pf hb109) ?_
              refine kt_d rfl rfl rfl (v_as) ?_
              refine kt_nil ?_
              refine kn_then ?_
              refine kwp_ret ?_
              obtain rfl := e_some h105
              refine r1 [] ?_
              exact ⟨rfl, rfl⟩

end Go.Proofs.YtnibfmofkamjoaaDoor
