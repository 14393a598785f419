/- What the plain programs return, the functions of the program return; no condition. -/
import Derived.Test.YtpfijnklnljccaaDoorQ3AirTrees
import Derived.Test.YtpfijnklnljccaaDoorFa
import Derived.Test.YtpfijnklnljccaaDoorVbm
import Derived.Test.YtpfijnklnljccaaDoorVbt
import Derived.Test.YtpfijnklnljccaaDoorVbi
import Derived.Test.YtpfijnklnljccaaDoorVba
namespace Go.Proofs.YtpfijnklnljccaaDoor
open Go
set_option linter.unusedVariables false
set_option linter.unusedSimpArgs false

set_option maxRecDepth 20000 in
theorem w_spec_DrawAirTrees (code0a : Option Addr) (code0n : Nat) (code0c : Nat) {code0 : List UInt8} {r : Mine} (h : p_spec_DrawAirTrees code0 = some r) :
    Triple Tryd.prog 38 [.slice code0a code0n code0c] [⟨.slice code0a code0n code0c, 1, code0.map encB⟩] [] (fun v ch => ∃ (w01a : Option Addr) (w01c : Nat), v = .agg #[.int .i64 r.p, .slice w01a r.aw.length w01c] ∧ ch = [⟨.slice w01a r.aw.length w01c, 3, r.aw.map encAirway⟩]) := by
  refine triple_start 6 Tryd.func38 Tryd.ntmps38 rfl rfl (fun w0 => ?_)
  refine k_len (c := code0c) (fun hl1 => ?_)
  subst hl1
  unfold p_spec_DrawAirTrees at h
  refine kwp_seq ?_
  refine kwp_region ?_
  refine kops_nilchunk 3 (by decide) ?_
  refine kk (n_alloc (e := [.int .i64 0, .slice none 0 0]) 2 Tryd.zeroValue32 (fun p2_2 => ?_))
  refine kops_nil ?_
  refine kn_then ?_
  refine kwp_seq ?_
  refine kwp_region ?_
  refine kd (v_mv) ?_
  obtain ⟨v4, hv3, h⟩ := e_bind h
  refine kk (n_call Tryd.call57 (w_spec_l20Open code0a code0.length code0c hv3) ?_)
  rintro _ _ ⟨q5p, q50a, q50c, rfl, hvwq5, rfl⟩
  obtain ⟨⟨v7, v8⟩, hv6, h⟩ := e_bind h
  refine kk (n_call Tryd.call62 (w_spec_l20Mine q5p q50a v4.b.length q50c hv6) ?_ (hv := (Views.cons (by repeat (first | exact mh | apply mt | apply mas | apply ms)) hvwq5 (Views.nil _))))
  rintro _ _ ⟨q91a, q91c, rfl, rfl⟩
  refine kk (s_B (e' := [.int .i64 v7.p, .slice q91a v7.aw.length q91c]) Tryd.sizeOf32 ?_)
  refine kops_nil ?_
  refine kn_then ?_
  refine kwp_ret ?_
  obtain rfl := e_some h
  refine rc Tryd.isAgg32 Tryd.sizeOf32 [⟨.slice q91a v7.aw.length q91c, 3, v7.aw.map encAirway⟩] ?_
  exact ⟨q91a, q91c, rfl, rfl⟩

set_option maxRecDepth 20000 in
set_option maxHeartbeats 2000000 in
theorem w_laws_FnAirTrees (code0a : Option Addr) (code0n : Nat) (code0c : Nat) {code0 : List UInt8} {r : Bool} (h : p_laws_FnAirTrees code0 = some r) :
    Triple Tryd.prog 9 [.slice code0a code0n code0c] [⟨.slice code0a code0n code0c, 1, code0.map encB⟩, tabC] [] (fun v ch => v = .bool r ∧ ch = []) := by
  refine triple_start 150 Tryd.func9 Tryd.ntmps9 rfl rfl (fun w0 => ?_)
  refine k_len (c := code0c) (fun hl1 => ?_)
  subst hl1
  unfold p_laws_FnAirTrees at h
  refine kwp_seq ?_
  refine kwp_region ?_
  refine kd (v_as) ?_
  refine kops_nil ?_
  refine kn_then ?_
  refine kwp_seq ?_
  refine kwp_seq ?_
  refine kwp_region ?_
  refine kd (v_mv) ?_
  refine kd (v_len Tryd.runUnderlying22) ?_
  refine kd (v_cmp) ?_
  refine kops_nil ?_
  refine kn_then ?_
  refine kwp_cond rfl (fun hc2 => ?_) (fun hc2 => ?_)
  ·
    replace h := e_t h hc2
    refine kwp_seq ?_
    refine kwp_region ?_
    refine kd (v_as) ?_
    refine kops_nil ?_
    refine kn_then ?_
    refine kwp_ret ?_
    refine kr_then ?_
    obtain rfl := e_some h
    refine r1 [] ?_
    exact ⟨rfl, rfl⟩
  ·
    replace h := e_f h hc2
    refine kwp_skip ?_
    refine kn_then ?_
    refine kwp_seq ?_
    refine kwp_region ?_
    refine kd (v_mv) ?_
    obtain ⟨v4, hv3, h⟩ := e_bind h
    refine kk (n_call Tryd.call38 (w_spec_DrawAirTrees code0a code0.length code0c hv3) ?_)
    rintro _ _ ⟨q51a, q51c, rfl, rfl⟩
    refine kops_nilchunk 3 (by decide) ?_
    refine kk (n_alloc (e := [.int .i64 0, .slice none 0 0]) 2 Tryd.zeroValue32 (fun p3_6 => ?_))
    refine kk (s_B (e' := [.int .i64 v4.p, .slice q51a v4.aw.length q51c]) Tryd.sizeOf32 ?_)
    refine kops_nil ?_
    refine kn_then ?_
    refine kwp_seq ?_
    refine kwp_region ?_
    refine kd (v_ldB Tryd.isAgg32 Tryd.sizeOf32) ?_
    obtain ⟨v8, hv7, h⟩ := e_bind h
    refine kk (n_call Tryd.call37 (w_impl_AirTrees q51a v4.aw.length q51c hv7) ?_)
    rintro _ _ ⟨rfl, rfl⟩
    refine kd (v_as) ?_
    refine kops_nil ?_
    refine kn_then ?_
    refine kwp_seq ?_
    refine kwp_seq ?_
    refine kwp_region ?_
    refine kd (v_mv) ?_
    refine kd (v_ldB Tryd.isAgg32 Tryd.sizeOf32) ?_
    obtain ⟨v11, hv10, h⟩ := e_bind h
    refine kk (n_call Tryd.call39 (w_spec_AirTrees q51a v4.aw.length q51c hv10) ?_)
    rintro _ _ ⟨rfl, rfl⟩
    refine kd (v_cmp) ?_
    refine kops_nil ?_
    refine kn_then ?_
    refine kwp_cond rfl (fun hc13 => ?_) (fun hc13 => ?_)
    ·
      replace h := e_t h hc13
      refine kwp_seq ?_
      refine kwp_region ?_
      refine kd (v_as) ?_
      refine kops_nil ?_
      refine kn_then ?_
      refine kwp_ret ?_
      refine kr_then ?_
      obtain rfl := e_some h
      refine r1 [] ?_
      exact ⟨rfl, rfl⟩
    ·
      replace h := e_f h hc13
      refine kwp_skip ?_
      refine kn_then ?_
      refine kwp_seq ?_
      refine kwp_seq ?_
      refine kwp_region ?_
      refine kd (v_mv) ?_
      refine kd (v_cmp) ?_
      refine kops_nil ?_
      refine kn_then ?_
      refine kwp_cond rfl (fun hc14 => ?_) (fun hc14 => ?_)
      ·
        replace h := e_t h hc14
        refine kwp_seq ?_
        refine kwp_region ?_
        refine kd (v_mv) ?_
        refine kd (v_cmp) ?_
        refine kd (v_mv) ?_
        refine kops_split 30 rfl (fun hb15 => ?_) (fun hb15 => ?_)
        ·
          replace h := e_t h hb15
          obtain ⟨v17, hv16, h⟩ := e_bind h
          refine kgk hb15 (n_call Tryd.call18 (w_laws_alive hv16) ?_)
          rintro _ _ ⟨rfl, rfl⟩
          refine kd (v_pt hb15) ?_
          refine kd (v_as) ?_
          refine kops_nil ?_
          refine kn_then ?_
          refine kwp_ret ?_
          refine kr_then ?_
          obtain rfl := e_some h
          refine r1 [] ?_
          exact ⟨rfl, rfl⟩
        ·
          replace h := e_f h hb15
          refine kskip hb15 ?_
          refine kd (v_pf hb15) ?_
          refine kd (v_as) ?_
          refine kops_nil ?_
          refine kn_then ?_
          refine kwp_ret ?_
          refine kr_then ?_
          obtain rfl := e_some h
          refine r1 [] ?_
          exact ⟨rfl, rfl⟩
      ·
        replace h := e_f h hc14
        refine kwp_skip ?_
        refine kn_then ?_
        refine kwp_seq ?_
        refine kwp_region ?_
        refine kd (v_fb fa_32_0) ?_
        refine kd (v_ldb Tryd.isAgg3) ?_
        refine kops_nilchunk 5 (by decide) ?_
        refine kd (v_bd [(0, _)] [_, .slice none 0 0] Tryd.zeroValue53 Tryd.runUnderlying53 pl_53) ?_
        refine kops_nilchunk 5 (by decide) ?_
        refine kk (n_alloc (e := [.int .i64 0, .slice none 0 0]) 2 Tryd.zeroValue53 (fun p5_19 => ?_))
        refine kk (s_B (e' := [.int .i64 v4.p, .slice none 0 0]) Tryd.sizeOf53 ?_)
        refine kops_nil ?_
        refine kn_then ?_
        refine kwp_seq ?_
        refine kwp_seq ?_
        refine kwp_region ?_
        refine kd (v_as) ?_
        refine kops_nil ?_
        refine kn_then ?_
        refine kwp_cutE (inv := [(3, .pointer (some p3_6)), (4, .int .i64 v8), (5, .pointer (some p5_19))]) (fun (z : List Leg) (y : Option Addr × Nat × Nat) => []) (fun (z : List Leg) (y : Option Addr × Nat × Nat) => [⟨.pointer (some p5_19), 2, [[.int .i64 v4.p, .slice y.1 y.2.1 y.2.2]]⟩, ⟨.slice y.1 y.2.1 y.2.2, 5, z.map encLeg⟩, ⟨.pointer (some p3_6), 2, [[.int .i64 v4.p, .slice q51a v4.aw.length q51c]]⟩, ⟨.slice q51a v4.aw.length q51c, 3, v4.aw.map encAirway⟩]) (fun _ _ => True) h ?_ ?_
        · intro t23 h21
          refine kwp_block ?_
          refine kwp_loopE (inv := [(3, .pointer (some p3_6)), (4, .int .i64 v8), (5, .pointer (some p5_19))]) (fun (z : Int × List Leg) (y : Option Addr × Nat × Nat) => [(6, .int .i64 z.1)]) (fun (z : Int × List Leg) (y : Option Addr × Nat × Nat) => [⟨.pointer (some p5_19), 2, [[.int .i64 v4.p, .slice y.1 y.2.1 y.2.2]]⟩, ⟨.slice y.1 y.2.1 y.2.2, 5, z.2.map encLeg⟩, ⟨.pointer (some p3_6), 2, [[.int .i64 v4.p, .slice q51a v4.aw.length q51c]]⟩, ⟨.slice q51a v4.aw.length q51c, 3, v4.aw.map encAirway⟩]) (fun _ _ => True) h21 ⟨(none, 0, 0), hd_mk trivial⟩ ?_
          intro z28 y29 b26 _ h27
          obtain ⟨k24, legs25⟩ := z28
          obtain ⟨legs25a, legs25n, legs25c⟩ := y29
          refine k_len (c := legs25c) (fun hl30 => ?_)
          subst hl30
          unfold p_laws_FnAirTrees_L0 at h27
          refine kwp_seq ?_
          refine kwp_seq ?_
          refine kwp_region ?_
          refine kd (v_mv) ?_
          refine kd (v_fb fa_32_1) ?_
          refine kd (v_ldb Tryd.isAgg30) ?_
          refine kd (v_len Tryd.runUnderlying30) ?_
          refine kd (v_cmp) ?_
          refine kops_nil ?_
          refine kn_then ?_
          refine kwp_cond rfl (fun hc31 => ?_) (fun hc31 => ?_)
          ·
            replace h27 := e_t h27 hc31
            refine kwp_skip ?_
            refine kn_then ?_
            refine kwp_seq ?_
            refine kwp_block ?_
            obtain ⟨j32, ej32, nj32, h27⟩ := e_idx h27
            obtain ⟨hz34, h27⟩ := e_need h27
            refine kwp_tree (.quiet 0 (.quiet 1 (.quiet 2 (.quiet 3 (.quiet 4 (.quiet 5 (.quiet 6 (.quiet 7 (.quiet 8 (.quiet 9 (.quiet 10 (.quiet 11 (.quiet 12 (.quiet 13 (.quiet 14 (.one 15 (.one 16 (.quiet 17 (.one 18 .stop))))))))))))))))))) [18] [⟨.slice q51a v4.aw.length q51c, 3, v4.aw.map encAirway⟩, ⟨.pointer (some p3_6), 2, [[.int .i64 v4.p, .slice q51a v4.aw.length q51c]]⟩, ⟨.pointer (some p5_19), 2, [[.int .i64 v4.p, .slice legs25a legs25.length legs25c]]⟩] drawMixed (by kernel_rfl) nopan (by (repeat (first | exact Sub.refl _ | exact Sub.nil _ | refine Sub.chunk (by repeat (first | exact Pick.here | apply Pick.there | apply Pick.seg)) (by rfl) ?_ | refine Sub.seg (by repeat (first | exact PickSeg.here | exact PickSeg.all | apply PickSeg.there | apply PickSeg.seg)) ?_ | exact Sub.seg0 (by repeat (first | exact PickSeg.here | exact PickSeg.all | apply PickSeg.there | apply PickSeg.seg)) | apply Sub.assoc))) ?_
            refine kt_d rfl rfl rfl (v_fb fa_53_1) ?_
            refine kt_d rfl rfl rfl (v_ldb Tryd.isAgg51) ?_
            refine kt_d rfl rfl rfl (v_fb fa_32_1) ?_
            refine kt_d rfl rfl rfl (v_ldb Tryd.isAgg30) ?_
            refine kt_d rfl rfl rfl (v_mv) ?_
            refine kt_d rfl rfl rfl (v_ia ej32 nj32 Tryd.runUnderlying30 Tryd.sizeOf36) ?_
            refine kt_d rfl rfl rfl (v_fa nj32 fa_36_0) ?_
            refine kt_d rfl rfl rfl (v_ldf nj32 Tryd.isAgg3) ?_
            refine kt_d rfl rfl rfl (v_fb fa_32_1) ?_
            refine kt_d rfl rfl rfl (v_ldb Tryd.isAgg30) ?_
            refine kt_d rfl rfl rfl (v_mv) ?_
            refine kt_d rfl rfl rfl (v_ia ej32 nj32 Tryd.runUnderlying30 Tryd.sizeOf36) ?_
            refine kt_d rfl rfl rfl (v_fa nj32 fa_36_1) ?_
            refine kt_d rfl rfl rfl (v_ldf nj32 Tryd.isAgg3) ?_
            refine kt_d rfl rfl rfl (v_bd [(0, _), (1, _)] [_, _, .int .i64 0, .int .i64 0, .int .i64 0] Tryd.zeroValue55 Tryd.runUnderlying55 pl_55) ?_
            refine kt_one ?_
            refine kl_k rfl rfl (n_lit (enc := encLeg) [_] ([(⟨(gx v4.aw j32).f, (gx v4.aw j32).t, 0, 0, 0⟩ : Leg)] : List Leg) Tryd.runUnderlying51 Tryd.sizeOf55 Tryd.zeroValue55 (fun a33 => ?_))
            refine ⟨.inl (by (repeat (first | exact Sub.refl _ | exact Sub.nil _ | refine Sub.chunk (by repeat (first | exact Pick.here | apply Pick.there | apply Pick.seg)) (by rfl) ?_ | refine Sub.seg (by repeat (first | exact PickSeg.here | exact PickSeg.all | apply PickSeg.there | apply PickSeg.seg)) ?_ | exact Sub.seg0 (by repeat (first | exact PickSeg.here | exact PickSeg.all | apply PickSeg.there | apply PickSeg.seg)) | apply Sub.assoc))), ?_⟩
            refine kt_one ?_
            refine kl_k rfl rfl (n_app (enc := encLeg) ok_encLeg hz34 Tryd.underlying51 Tryd.type55 (by decide) (fun a35 c36 => ?_))
            refine ⟨.inl (by (repeat (first | exact Sub.refl _ | exact Sub.nil _ | refine Sub.chunk (by repeat (first | exact Pick.here | apply Pick.there | apply Pick.seg)) (by rfl) ?_ | refine Sub.seg (by repeat (first | exact PickSeg.here | exact PickSeg.all | apply PickSeg.there | apply PickSeg.seg)) ?_ | exact Sub.seg0 (by repeat (first | exact PickSeg.here | exact PickSeg.all | apply PickSeg.there | apply PickSeg.seg)) | apply Sub.assoc))), ?_⟩
            refine kt_d rfl rfl rfl (v_fb fa_53_1) ?_
            refine kt_one ?_
            refine kl_k rfl rfl (s_b (e' := [.int .i64 v4.p, .slice a35 ((legs25 ++ ([(⟨(gx v4.aw j32).f, (gx v4.aw j32).t, 0, 0, 0⟩ : Leg)] : List Leg)).length) c36]) Tryd.sizeOf51 ?_)
            refine ⟨.inr ⟨by decide, rfl⟩, ?_⟩
            refine kt_nil ?_
            refine kn_block ?_
            refine kn_then ?_
            refine kwp_region ?_
            refine kd (v_mv) ?_
            refine kd (v_add) ?_
            refine kd (v_as) ?_
            refine kops_nil ?_
            refine kn_then ?_
            obtain rfl := e_some h27
            exact ⟨_, (a35, (legs25 ++ ([(⟨(gx v4.aw j32).f, (gx v4.aw j32).t, 0, 0, 0⟩ : Leg)] : List Leg)).length, c36), rfl, hd_mk trivial⟩
          ·
            replace h27 := e_f h27 hc31
            refine kwp_exit ?_
            refine ke_then ?_
            obtain rfl := e_some h27
            refine k_out ?_ rfl
            rintro rfl
            refine ke_block ?_
            exact ⟨(legs25a, legs25.length, legs25c), hd_mk trivial⟩
        · intro legs20 y38 _ h39
          obtain ⟨legs20a, legs20n, legs20c⟩ := y38
          refine k_len (c := legs20c) (fun hl40 => ?_)
          subst hl40
          refine kwp_seq ?_
          refine kwp_region ?_
          refine kd (v_ldB Tryd.isAgg53 Tryd.sizeOf53) ?_
          obtain ⟨v42, hv41, h39⟩ := e_bind h39
          refine kk (n_call Tryd.call40 (w_impl_TreesAll legs20a legs20.length legs20c hv41) ?_)
          rintro _ _ ⟨q43a, q43c, q43R, rfl, hq43R, rfl⟩
          refine kd (v_as) ?_
          refine kops_nil ?_
          refine kn_then ?_
          refine kwp_seq ?_
          refine kwp_region ?_
          refine kd (v_as) ?_
          refine kops_nil ?_
          refine kn_then ?_
          refine kwp_seq ?_
          refine kwp_seq ?_
          refine kwp_region ?_
          refine kd (v_as) ?_
          refine kops_nil ?_
          refine kn_then ?_
          refine kwp_cutO (inv := [(3, .pointer (some p3_6)), (4, .int .i64 v8)]) (fun (z : Int) (y : Unit) => [(8, .int .i64 z)]) (fun (z : Int) (y : Unit) => [⟨.pointer (some p3_6), 2, [[.int .i64 v4.p, .slice q51a v4.aw.length q51c]]⟩, ⟨.slice q51a v4.aw.length q51c, 3, v4.aw.map encAirway⟩]) (fun _ _ => True) h39 ?_ ?_
          · intro t47 h45 g46
            refine kwp_block ?_
            refine kwp_loopE (inv := [(3, .pointer (some p3_6)), (4, .int .i64 v8), (7, .slice q43a v42.length q43c)]) (fun (z : Int × Int) (y : Unit) => [(8, .int .i64 z.1), (9, .int .i64 z.2)]) (fun (z : Int × Int) (y : Unit) => (⟨.pointer (some p3_6), 2, [[.int .i64 v4.p, .slice q51a v4.aw.length q51c]]⟩ :: ⟨.slice q51a v4.aw.length q51c, 3, v4.aw.map encAirway⟩ :: ⟨.slice q43a v42.length q43c, 1, q43R.map encRow⟩ :: (rowsC q43R))) (fun _ _ => True) h45 ⟨(), hd_mk trivial⟩ ?_
            intro z52 y53 b50 _ h51
            obtain ⟨sum48, k49⟩ := z52
            unfold p_laws_FnAirTrees_L1 at h51
            refine kwp_seq ?_
            refine kwp_seq ?_
            refine kwp_region ?_
            refine kd (v_mv) ?_
            refine kd (v_mv) ?_
            refine kd (v_len Tryd.runUnderlying42) ?_
            refine kd (v_cmp) ?_
            refine kops_nil ?_
            refine kn_then ?_
            refine kwp_cond rfl (fun hc54 => ?_) (fun hc54 => ?_)
            ·
              replace h51 := e_t h51 hc54
              refine kwp_skip ?_
              refine kn_then ?_
              refine kwp_seq ?_
              refine kwp_block ?_
              refine kwp_seq ?_
              refine kwp_region ?_
              refine kd (v_as) ?_
              refine kops_nil ?_
              refine kn_then ?_
              refine kwp_seq ?_
              refine kwp_seq ?_
              refine kwp_region ?_
              refine kd (v_as) ?_
              refine kops_nil ?_
              refine kn_then ?_
              refine kwp_cutO (inv := [(3, .pointer (some p3_6)), (4, .int .i64 v8), (7, .slice q43a v42.length q43c), (8, .int .i64 sum48), (9, .int .i64 k49)]) (fun (z : Int) (y : Unit) => [(10, .int .i64 z)]) (fun (z : Int) (y : Unit) => (⟨.pointer (some p3_6), 2, [[.int .i64 v4.p, .slice q51a v4.aw.length q51c]]⟩ :: ⟨.slice q51a v4.aw.length q51c, 3, v4.aw.map encAirway⟩ :: ⟨.slice q43a v42.length q43c, 1, q43R.map encRow⟩ :: (rowsC q43R))) (fun _ _ => True) h51 ?_ ?_
              · intro t58 h56 g57
                refine kwp_block ?_
                refine kwp_loopE (inv := [(3, .pointer (some p3_6)), (4, .int .i64 v8), (7, .slice q43a v42.length q43c), (8, .int .i64 sum48), (9, .int .i64 k49)]) (fun (z : Int × Int) (y : Unit) => [(10, .int .i64 z.1), (11, .int .i64 z.2)]) (fun (z : Int × Int) (y : Unit) => (⟨.pointer (some p3_6), 2, [[.int .i64 v4.p, .slice q51a v4.aw.length q51c]]⟩ :: ⟨.slice q51a v4.aw.length q51c, 3, v4.aw.map encAirway⟩ :: ⟨.slice q43a v42.length q43c, 1, q43R.map encRow⟩ :: (rowsC q43R))) (fun _ _ => True) h56 ⟨(), hd_mk trivial⟩ ?_
                intro z63 y64 b61 _ h62
                obtain ⟨product59, j60⟩ := z63
                unfold p_laws_FnAirTrees_L2 at h62
                refine kwp_seq ?_
                refine kwp_seq ?_
                refine kwp_region ?_
                refine kd (v_mv) ?_
                refine kd (v_mv) ?_
                refine kd (v_mv) ?_
                obtain ⟨j65, ej65, nj65, h62⟩ := e_idx h62
                refine kd (v_ia ej65 nj65 Tryd.runUnderlying42 Tryd.sizeOf46) ?_
                refine kd (v_ldr nj65 hq43R Tryd.isAgg46) ?_
                refine kd (v_len Tryd.runUnderlying46) ?_
                refine kd (v_cmp) ?_
                refine kops_nil ?_
                refine kn_then ?_
                refine kwp_cond rfl (fun hc66 => ?_) (fun hc66 => ?_)
                ·
                  replace h62 := e_t h62 hc66
                  refine kwp_skip ?_
                  refine kn_then ?_
                  refine kwp_seq ?_
                  refine kwp_block ?_
                  refine kwp_seq ?_
                  refine kwp_seq ?_
                  refine kwp_cutE (inv := [(3, .pointer (some p3_6)), (4, .int .i64 v8), (7, .slice q43a v42.length q43c), (8, .int .i64 sum48), (9, .int .i64 k49), (10, .int .i64 product59), (11, .int .i64 j60)]) (fun (z : Bool) (y : Unit) => [(98, .bool z)]) (fun (z : Bool) (y : Unit) => (⟨.pointer (some p3_6), 2, [[.int .i64 v4.p, .slice q51a v4.aw.length q51c]]⟩ :: ⟨.slice q51a v4.aw.length q51c, 3, v4.aw.map encAirway⟩ :: ⟨.slice q43a v42.length q43c, 1, q43R.map encRow⟩ :: (rowsC q43R))) (fun _ _ => True) h62 ?_ ?_
                  · intro t70 h68
                    obtain ⟨j71, ej71, nj71, h68⟩ := e_idx h68
                    refine sp (decide ((gx (gx v42 j65) j71) < 0)) (fun hb72 => ?_) (fun hb72 => ?_)
                    ·
                      replace h68 := e_t h68 hb72
                      refine kwp_tree (.quiet 0 (.quiet 1 (.quiet 2 (.quiet 3 (.quiet 4 (.quiet 5 (.quiet 6 (.quiet 7 (.quiet 8 (.quiet 9 (.quiet 10 (.quiet 11 (.quiet 12 (.quiet 13 (.quiet 14 (.quiet 15 (.quiet 16 (.quiet 17 (.quiet 18 (.quiet 19 (.quiet 20 .stop))))))))))))))))))))) [] (⟨.slice q43a v42.length q43c, 1, q43R.map encRow⟩ :: (rowsC q43R)) drawMixed (by kernel_rfl) nopan (by (repeat (first | exact Sub.refl _ | exact Sub.nil _ | refine Sub.chunk (by repeat (first | exact Pick.here | apply Pick.there | apply Pick.seg)) (by rfl) ?_ | refine Sub.seg (by repeat (first | exact PickSeg.here | exact PickSeg.all | apply PickSeg.there | apply PickSeg.seg)) ?_ | exact Sub.seg0 (by repeat (first | exact PickSeg.here | exact PickSeg.all | apply PickSeg.there | apply PickSeg.seg)) | apply Sub.assoc))) ?_
                      refine kt_d rfl rfl rfl (v_mv) ?_
                      refine kt_d rfl rfl rfl (v_mv) ?_
                      refine kt_d rfl rfl rfl (v_ia ej65 nj65 Tryd.runUnderlying42 Tryd.sizeOf46) ?_
                      refine kt_d rfl rfl rfl (v_ldr nj65 hq43R Tryd.isAgg46) ?_
                      refine kt_d rfl rfl rfl (v_mv) ?_
                      refine kt_d rfl rfl rfl (v_ia ej71 nj71 Tryd.runUnderlying46 Tryd.sizeOf3 (hm := by repeat (first | exact mr hq43R (by first | exact nj65 | (simpa using nj65) | omega | (simp only [List.length_set]; omega)) | exact mr0 hq43R (by first | exact nj65 | (simpa using nj65) | omega | (simp only [List.length_set]; omega)) | apply mt | apply mas | apply ms))) ?_
                      refine kt_d rfl rfl rfl (v_ldf nj71 Tryd.isAgg3 (hm := by repeat (first | exact mr hq43R (by first | exact nj65 | (simpa using nj65) | omega | (simp only [List.length_set]; omega)) | exact mr0 hq43R (by first | exact nj65 | (simpa using nj65) | omega | (simp only [List.length_set]; omega)) | apply mt | apply mas | apply ms))) ?_
                      refine kt_d rfl rfl rfl (v_cmp) ?_
                      refine kt_d rfl rfl rfl (v_mv) ?_
                      refine kt_skip rfl rfl rfl rfl hb72 ?_
                      refine kt_skip rfl rfl rfl rfl hb72 ?_
                      refine kt_skip rfl rfl rfl rfl hb72 ?_
                      refine kt_skip rfl rfl rfl rfl hb72 ?_
                      refine kt_skip rfl rfl rfl rfl hb72 ?_
                      refine kt_skip rfl rfl rfl rfl hb72 ?_
                      refine kt_skip rfl rfl rfl rfl hb72 ?_
                      refine kt_skip rfl rfl rfl rfl hb72 ?_
                      refine kt_skip rfl rfl rfl rfl hb72 ?_
                      refine kt_skip rfl rfl rfl rfl hb72 ?_
                      refine kt_skip rfl rfl rfl rfl hb72 ?_
                      refine kt_d rfl rfl rfl (v_pt hb72) ?_
                      refine kt_nil ?_
                      refine kn_then ?_
                      obtain rfl := e_some h68
                      exact ⟨(), hd_mk trivial⟩
                    ·
                      replace h68 := e_f h68 hb72
                      refine kwp_tree (.quiet 0 (.quiet 1 (.quiet 2 (.quiet 3 (.quiet 4 (.quiet 5 (.quiet 6 (.quiet 7 (.quiet 8 (.quiet 9 (.quiet 10 (.quiet 11 (.quiet 12 (.quiet 13 (.quiet 14 (.quiet 15 (.quiet 16 (.quiet 17 (.quiet 18 (.quiet 19 (.quiet 20 .stop))))))))))))))))))))) [] (⟨.pointer (some p3_6), 2, [[.int .i64 v4.p, .slice q51a v4.aw.length q51c]]⟩ :: ⟨.slice q43a v42.length q43c, 1, q43R.map encRow⟩ :: (rowsC q43R)) drawMixed (by kernel_rfl) nopan (by (repeat (first | exact Sub.refl _ | exact Sub.nil _ | refine Sub.chunk (by repeat (first | exact Pick.here | apply Pick.there | apply Pick.seg)) (by rfl) ?_ | refine Sub.seg (by repeat (first | exact PickSeg.here | exact PickSeg.all | apply PickSeg.there | apply PickSeg.seg)) ?_ | exact Sub.seg0 (by repeat (first | exact PickSeg.here | exact PickSeg.all | apply PickSeg.there | apply PickSeg.seg)) | apply Sub.assoc))) ?_
                      refine kt_d rfl rfl rfl (v_mv) ?_
                      refine kt_d rfl rfl rfl (v_mv) ?_
                      refine kt_d rfl rfl rfl (v_ia ej65 nj65 Tryd.runUnderlying42 Tryd.sizeOf46) ?_
                      refine kt_d rfl rfl rfl (v_ldr nj65 hq43R Tryd.isAgg46) ?_
                      refine kt_d rfl rfl rfl (v_mv) ?_
                      refine kt_d rfl rfl rfl (v_ia ej71 nj71 Tryd.runUnderlying46 Tryd.sizeOf3 (hm := by repeat (first | exact mr hq43R (by first | exact nj65 | (simpa using nj65) | omega | (simp only [List.length_set]; omega)) | exact mr0 hq43R (by first | exact nj65 | (simpa using nj65) | omega | (simp only [List.length_set]; omega)) | apply mt | apply mas | apply ms))) ?_
                      refine kt_d rfl rfl rfl (v_ldf nj71 Tryd.isAgg3 (hm := by repeat (first | exact mr hq43R (by first | exact nj65 | (simpa using nj65) | omega | (simp only [List.length_set]; omega)) | exact mr0 hq43R (by first | exact nj65 | (simpa using nj65) | omega | (simp only [List.length_set]; omega)) | apply mt | apply mas | apply ms))) ?_
                      refine kt_d rfl rfl rfl (v_cmp) ?_
                      refine kt_d rfl rfl rfl (v_mv) ?_
                      refine kt_gv rfl rfl rfl rfl hb72 (v_mv) ?_
                      refine kt_gv rfl rfl rfl rfl hb72 (v_mv) ?_
                      refine kt_gv rfl rfl rfl rfl hb72 (v_ia ej65 nj65 Tryd.runUnderlying42 Tryd.sizeOf46) ?_
                      refine kt_gv rfl rfl rfl rfl hb72 (v_ldr nj65 hq43R Tryd.isAgg46) ?_
                      refine kt_gv rfl rfl rfl rfl hb72 (v_mv) ?_
                      refine kt_gv rfl rfl rfl rfl hb72 (v_ia ej71 nj71 Tryd.runUnderlying46 Tryd.sizeOf3 (hm := by repeat (first | exact mr hq43R (by first | exact nj65 | (simpa using nj65) | omega | (simp only [List.length_set]; omega)) | exact mr0 hq43R (by first | exact nj65 | (simpa using nj65) | omega | (simp only [List.length_set]; omega)) | apply mt | apply mas | apply ms))) ?_
                      refine kt_gv rfl rfl rfl rfl hb72 (v_ldf nj71 Tryd.isAgg3 (hm := by repeat (first | exact mr hq43R (by first | exact nj65 | (simpa using nj65) | omega | (simp only [List.length_set]; omega)) | exact mr0 hq43R (by first | exact nj65 | (simpa using nj65) | omega | (simp only [List.length_set]; omega)) | apply mt | apply mas | apply ms))) ?_
                      refine kt_gv rfl rfl rfl rfl hb72 (v_fb fa_32_1) ?_
                      refine kt_gv rfl rfl rfl rfl hb72 (v_ldb Tryd.isAgg30) ?_
                      refine kt_gv rfl rfl rfl rfl hb72 (v_len Tryd.runUnderlying30) ?_
                      refine kt_gv rfl rfl rfl rfl hb72 (v_cmp) ?_
                      refine kt_d rfl rfl rfl (v_pf hb72) ?_
                      refine kt_nil ?_
                      refine kn_then ?_
                      obtain rfl := e_some h68
                      exact ⟨(), hd_mk trivial⟩
                  · intro x67 y74 _ h75
                    refine kn_then ?_
                    refine kwp_cond rfl (fun hc76 => ?_) (fun hc76 => ?_)
                    ·
                      replace h75 := e_t h75 hc76
                      refine kwp_seq ?_
                      refine kwp_region ?_
                      refine kd (v_as) ?_
                      refine kops_nil ?_
                      refine kn_then ?_
                      refine kwp_ret ?_
                      refine kr_then ?_
                      refine kr_block ?_
                      refine kr_then ?_
                      refine kr_then ?_
                      obtain rfl := e_some h75
                      refine k_out ?_ rfl
                      rintro rfl
                      refine kr_block ?_
                      refine kr_then ?_
                      refine kr_then ?_
                      refine kr_block ?_
                      refine kr_then ?_
                      refine kr_then ?_
                      obtain rfl := e_some g57
                      refine k_out ?_ rfl
                      rintro rfl
                      refine kr_block ?_
                      refine kr_then ?_
                      refine kr_then ?_
                      obtain rfl := e_some g46
                      refine r1 [] ?_
                      exact ⟨rfl, rfl⟩
                    ·
                      replace h75 := e_f h75 hc76
                      refine kwp_skip ?_
                      refine kn_then ?_
                      obtain ⟨j77, ej77, nj77, h75⟩ := e_idx h75
                      obtain ⟨j78, ej78, nj78, h75⟩ := e_idx h75
                      obtain ⟨j79, ej79, nj79, h75⟩ := e_idx h75
                      refine kwp_tree (.quiet 0 (.quiet 1 (.quiet 2 (.quiet 3 (.quiet 4 (.quiet 5 (.quiet 6 (.quiet 7 (.quiet 8 (.quiet 9 (.quiet 10 (.quiet 11 (.quiet 12 (.quiet 13 (.quiet 14 .stop))))))))))))))) [] (⟨.slice q51a v4.aw.length q51c, 3, v4.aw.map encAirway⟩ :: ⟨.pointer (some p3_6), 2, [[.int .i64 v4.p, .slice q51a v4.aw.length q51c]]⟩ :: ⟨.slice q43a v42.length q43c, 1, q43R.map encRow⟩ :: (rowsC q43R)) drawMixed (by kernel_rfl) nopan (by (repeat (first | exact Sub.refl _ | exact Sub.nil _ | refine Sub.chunk (by repeat (first | exact Pick.here | apply Pick.there | apply Pick.seg)) (by rfl) ?_ | refine Sub.seg (by repeat (first | exact PickSeg.here | exact PickSeg.all | apply PickSeg.there | apply PickSeg.seg)) ?_ | exact Sub.seg0 (by repeat (first | exact PickSeg.here | exact PickSeg.all | apply PickSeg.there | apply PickSeg.seg)) | apply Sub.assoc))) ?_
                      refine kt_d rfl rfl rfl (v_mv) ?_
                      refine kt_d rfl rfl rfl (v_fb fa_32_1) ?_
                      refine kt_d rfl rfl rfl (v_ldb Tryd.isAgg30) ?_
                      refine kt_d rfl rfl rfl (v_mv) ?_
                      refine kt_d rfl rfl rfl (v_mv) ?_
                      refine kt_d rfl rfl rfl (v_ia ej77 nj77 Tryd.runUnderlying42 Tryd.sizeOf46) ?_
                      refine kt_d rfl rfl rfl (v_ldr nj77 hq43R Tryd.isAgg46) ?_
                      refine kt_d rfl rfl rfl (v_mv) ?_
                      refine kt_d rfl rfl rfl (v_ia ej78 nj78 Tryd.runUnderlying46 Tryd.sizeOf3 (hm := by repeat (first | exact mr hq43R (by first | exact nj77 | (simpa using nj77) | omega | (simp only [List.length_set]; omega)) | exact mr0 hq43R (by first | exact nj77 | (simpa using nj77) | omega | (simp only [List.length_set]; omega)) | apply mt | apply mas | apply ms))) ?_
                      refine kt_d rfl rfl rfl (v_ldf nj78 Tryd.isAgg3 (hm := by repeat (first | exact mr hq43R (by first | exact nj77 | (simpa using nj77) | omega | (simp only [List.length_set]; omega)) | exact mr0 hq43R (by first | exact nj77 | (simpa using nj77) | omega | (simp only [List.length_set]; omega)) | apply mt | apply mas | apply ms))) ?_
                      refine kt_d rfl rfl rfl (v_ia ej79 nj79 Tryd.runUnderlying30 Tryd.sizeOf36) ?_
                      refine kt_d rfl rfl rfl (v_fa nj79 fa_36_2) ?_
                      refine kt_d rfl rfl rfl (v_ldf nj79 Tryd.isAgg3) ?_
                      refine kt_d rfl rfl rfl (v_mul) ?_
                      refine kt_d rfl rfl rfl (v_as) ?_
                      refine kt_nil ?_
                      refine kn_block ?_
                      refine kn_then ?_
                      refine kwp_region ?_
                      refine kd (v_mv) ?_
                      refine kd (v_add) ?_
                      refine kd (v_as) ?_
                      refine kops_nil ?_
                      refine kn_then ?_
                      obtain rfl := e_some h75
                      exact ⟨_, (), rfl, hd_mk trivial⟩
                ·
                  replace h62 := e_f h62 hc66
                  refine kwp_exit ?_
                  refine ke_then ?_
                  obtain rfl := e_some h62
                  refine k_out ?_ rfl
                  rintro rfl
                  refine ke_block ?_
                  exact ⟨_, (), rfl, hd_mk trivial⟩
              · intro product55 y81 _ h82
                refine kn_then ?_
                refine kwp_region ?_
                refine kd (v_mv) ?_
                refine kd (v_mv) ?_
                refine kd (v_add) ?_
                refine kd (v_as) ?_
                refine kops_nil ?_
                refine kn_block ?_
                refine kn_then ?_
                refine kwp_region ?_
                refine kd (v_mv) ?_
                refine kd (v_add) ?_
                refine kd (v_as) ?_
                refine kops_nil ?_
                refine kn_then ?_
                obtain rfl := e_some h82
                exact ⟨_, (), rfl, hd_mk trivial⟩
            ·
              replace h51 := e_f h51 hc54
              refine kwp_exit ?_
              refine ke_then ?_
              obtain rfl := e_some h51
              refine k_out ?_ rfl
              rintro rfl
              refine ke_block ?_
              exact ⟨_, (), rfl, hd_mk trivial⟩
          · intro sum44 y84 _ h85
            refine kn_then ?_
            refine kwp_seq ?_
            refine kwp_seq ?_
            refine kwp_region ?_
            refine kd (v_as) ?_
            refine kops_nil ?_
            refine kn_then ?_
            refine kwp_cutO (inv := [(4, .int .i64 v8), (8, .int .i64 sum44)]) (fun (z : Unit) (y : Unit) => []) (fun (z : Unit) (y : Unit) => []) (fun _ _ => True) h85 ?_ ?_
            · intro t88 h86 g87
              refine kwp_block ?_
              refine kwp_loopE (inv := [(3, .pointer (some p3_6)), (4, .int .i64 v8), (8, .int .i64 sum44)]) (fun (z : Int) (y : Unit) => [(12, .int .i64 z)]) (fun (z : Int) (y : Unit) => [⟨.pointer (some p3_6), 2, [[.int .i64 v4.p, .slice q51a v4.aw.length q51c]]⟩, ⟨.slice q51a v4.aw.length q51c, 3, v4.aw.map encAirway⟩]) (fun _ _ => True) h86 ⟨(), hd_mk trivial⟩ ?_
              intro k89 y93 b90 _ h91
              unfold p_laws_FnAirTrees_L3 at h91
              refine kwp_seq ?_
              refine kwp_seq ?_
              refine kwp_region ?_
              refine kd (v_mv) ?_
              refine kd (v_fb fa_32_1) ?_
              refine kd (v_ldb Tryd.isAgg30) ?_
              refine kd (v_len Tryd.runUnderlying30) ?_
              refine kd (v_cmp) ?_
              refine kops_nil ?_
              refine kn_then ?_
              refine kwp_cond rfl (fun hc94 => ?_) (fun hc94 => ?_)
              ·
                replace h91 := e_t h91 hc94
                refine kwp_skip ?_
                refine kn_then ?_
                refine kwp_seq ?_
                refine kwp_block ?_
                refine kwp_seq ?_
                refine kwp_region ?_
                refine kd (v_ldB Tryd.isAgg32 Tryd.sizeOf32) ?_
                refine kd (v_mv) ?_
                obtain ⟨⟨v96, v97⟩, hv95, h91⟩ := e_bind h91
                refine kk (n_call Tryd.call23 (w_impl_Widen q51a v4.aw.length q51c hv95) ?_)
                rintro _ _ ⟨q981a, q981c, rfl, rfl⟩
                refine kd (v_mv) ?_
                refine kd (v_ex) ?_
                refine kd (v_ex) ?_
                refine kops_nilchunk 3 (by decide) ?_
                refine kk (n_alloc (e := [.int .i64 0, .slice none 0 0]) 2 Tryd.zeroValue32 (fun p13_100 => ?_))
                refine kk (s_B (e' := [.int .i64 v96.p, .slice q981a v96.aw.length q981c]) Tryd.sizeOf32 ?_)
                refine kd (v_as) ?_
                refine kops_nil ?_
                refine kn_then ?_
                refine kwp_seq ?_
                refine sp v97 (fun hb101 => ?_) (fun hb101 => ?_)
                ·
                  replace h91 := e_t h91 hb101
                  obtain ⟨v103, hv102, h91⟩ := e_bind h91
                  obtain ⟨j105, ej105, nj105, h91⟩ := e_idx h91
                  obtain ⟨v107, hv106, h91⟩ := e_bind h91
                  refine kwp_tree (.quiet 0 (.quiet 1 (.quiet 2 (.quiet 4 (.quiet 6 (.quiet 7 (.quiet 8 (.quiet 9 (.quiet 10 (.quiet 11 (.quiet 13 (.quiet 14 (.one 3 (.quiet 5 (.quiet 12 (.one 15 (.quiet 16 (.quiet 17 .stop)))))))))))))))))) [] [⟨.slice q51a v4.aw.length q51c, 3, v4.aw.map encAirway⟩, ⟨.pointer (some p3_6), 2, [[.int .i64 v4.p, .slice q51a v4.aw.length q51c]]⟩, ⟨.pointer (some p13_100), 2, [[.int .i64 v96.p, .slice q981a v96.aw.length q981c]]⟩] drawMixed (by kernel_rfl) nopan (by (repeat (first | exact Sub.refl _ | exact Sub.nil _ | refine Sub.chunk (by repeat (first | exact Pick.here | apply Pick.there | apply Pick.seg)) (by rfl) ?_ | refine Sub.seg (by repeat (first | exact PickSeg.here | exact PickSeg.all | apply PickSeg.there | apply PickSeg.seg)) ?_ | exact Sub.seg0 (by repeat (first | exact PickSeg.here | exact PickSeg.all | apply PickSeg.there | apply PickSeg.seg)) | apply Sub.assoc))) ?_
                  refine kt_d rfl rfl rfl (v_mv) ?_
                  refine kt_d rfl rfl rfl (v_mv) ?_
                  refine kt_gv rfl rfl rfl rfl hb101 (v_ldB Tryd.isAgg32 Tryd.sizeOf32) ?_
                  refine kt_gv rfl rfl rfl rfl hb101 (v_mv) ?_
                  refine kt_gv rfl rfl rfl rfl hb101 (v_fb fa_32_1) ?_
                  refine kt_gv rfl rfl rfl rfl hb101 (v_ldb Tryd.isAgg30) ?_
                  refine kt_gv rfl rfl rfl rfl hb101 (v_mv) ?_
                  refine kt_gv rfl rfl rfl rfl hb101 (v_ia ej105 nj105 Tryd.runUnderlying30 Tryd.sizeOf36) ?_
                  refine kt_gv rfl rfl rfl rfl hb101 (v_fa nj105 fa_36_2) ?_
                  refine kt_gv rfl rfl rfl rfl hb101 (v_ldf nj105 Tryd.isAgg3) ?_
                  refine kt_gv rfl rfl rfl rfl hb101 (v_ldB Tryd.isAgg32 Tryd.sizeOf32) ?_
                  refine kt_gv rfl rfl rfl rfl hb101 (v_mv) ?_
                  refine kt_one ?_
                  refine kl_gk rfl rfl rfl rfl hb101 (n_call Tryd.call37 (w_impl_AirTrees q981a v96.aw.length q981c hv102) ?_)
                  rintro _ _ ⟨rfl, rfl⟩
                  refine ⟨.inl (by (repeat (first | exact Sub.refl _ | exact Sub.nil _ | refine Sub.chunk (by repeat (first | exact Pick.here | apply Pick.there | apply Pick.seg)) (by rfl) ?_ | refine Sub.seg (by repeat (first | exact PickSeg.here | exact PickSeg.all | apply PickSeg.there | apply PickSeg.seg)) ?_ | exact Sub.seg0 (by repeat (first | exact PickSeg.here | exact PickSeg.all | apply PickSeg.there | apply PickSeg.seg)) | apply Sub.assoc))), ?_⟩
                  refine kt_gv rfl rfl rfl rfl hb101 (v_sub) ?_
                  refine kt_gv rfl rfl rfl rfl hb101 (v_mul) ?_
                  refine kt_one ?_
                  refine kl_gk rfl rfl rfl rfl hb101 (n_call Tryd.call41 (w_impl_AirTreesWith q51a v4.aw.length q51c hv106) ?_)
                  rintro _ _ ⟨rfl, rfl⟩
                  refine ⟨.inl (by (repeat (first | exact Sub.refl _ | exact Sub.nil _ | refine Sub.chunk (by repeat (first | exact Pick.here | apply Pick.there | apply Pick.seg)) (by rfl) ?_ | refine Sub.seg (by repeat (first | exact PickSeg.here | exact PickSeg.all | apply PickSeg.there | apply PickSeg.seg)) ?_ | exact Sub.seg0 (by repeat (first | exact PickSeg.here | exact PickSeg.all | apply PickSeg.there | apply PickSeg.seg)) | apply Sub.assoc))), ?_⟩
                  refine kt_gv rfl rfl rfl rfl hb101 (v_cmp) ?_
                  refine kt_d rfl rfl rfl (v_pt hb101) ?_
                  refine kt_nil ?_
                  refine kn_then ?_
                  refine kwp_cond rfl (fun hc109 => ?_) (fun hc109 => ?_)
                  ·
                    replace h91 := e_t h91 hc109
                    refine kwp_seq ?_
                    refine kwp_region ?_
                    refine kd (v_as) ?_
                    refine kops_nil ?_
                    refine kn_then ?_
                    refine kwp_ret ?_
                    refine kr_block ?_
                    refine kr_then ?_
                    refine kr_then ?_
                    obtain rfl := e_some h91
                    refine k_out ?_ rfl
                    rintro rfl
                    refine kr_block ?_
                    refine kr_then ?_
                    refine kr_then ?_
                    obtain rfl := e_some g87
                    refine r1 [] ?_
                    exact ⟨rfl, rfl⟩
                  ·
                    replace h91 := e_f h91 hc109
                    refine kwp_skip ?_
                    refine kn_block ?_
                    refine kn_then ?_
                    refine kwp_region ?_
                    refine kd (v_mv) ?_
                    refine kd (v_add) ?_
                    refine kd (v_as) ?_
                    refine kops_nil ?_
                    refine kn_then ?_
                    obtain rfl := e_some h91
                    exact ⟨_, (), rfl, hd_mk trivial⟩
                ·
                  replace h91 := e_f h91 hb101
                  refine kwp_tree (.quiet 0 (.quiet 1 (.quiet 2 (.quiet 4 (.quiet 6 (.quiet 7 (.quiet 8 (.quiet 9 (.quiet 10 (.quiet 11 (.quiet 13 (.quiet 14 (.one 3 (.quiet 5 (.quiet 12 (.one 15 (.quiet 16 (.quiet 17 .stop)))))))))))))))))) [] [] drawMixed (by kernel_rfl) nopan (by (repeat (first | exact Sub.refl _ | exact Sub.nil _ | refine Sub.chunk (by repeat (first | exact Pick.here | apply Pick.there | apply Pick.seg)) (by rfl) ?_ | refine Sub.seg (by repeat (first | exact PickSeg.here | exact PickSeg.all | apply PickSeg.there | apply PickSeg.seg)) ?_ | exact Sub.seg0 (by repeat (first | exact PickSeg.here | exact PickSeg.all | apply PickSeg.there | apply PickSeg.seg)) | apply Sub.assoc))) ?_
                  refine kt_d rfl rfl rfl (v_mv) ?_
                  refine kt_d rfl rfl rfl (v_mv) ?_
                  refine kt_skip rfl rfl rfl rfl hb101 ?_
                  refine kt_skip rfl rfl rfl rfl hb101 ?_
                  refine kt_skip rfl rfl rfl rfl hb101 ?_
                  refine kt_skip rfl rfl rfl rfl hb101 ?_
                  refine kt_skip rfl rfl rfl rfl hb101 ?_
                  refine kt_skip rfl rfl rfl rfl hb101 ?_
                  refine kt_skip rfl rfl rfl rfl hb101 ?_
                  refine kt_skip rfl rfl rfl rfl hb101 ?_
                  refine kt_skip rfl rfl rfl rfl hb101 ?_
                  refine kt_skip rfl rfl rfl rfl hb101 ?_
                  refine kt_one ?_
                  refine kl_skip rfl rfl rfl rfl hb101 (by (repeat (first | exact Sub.refl _ | exact Sub.nil _ | refine Sub.chunk (by repeat (first | exact Pick.here | apply Pick.there | apply Pick.seg)) (by rfl) ?_ | refine Sub.seg (by repeat (first | exact PickSeg.here | exact PickSeg.all | apply PickSeg.there | apply PickSeg.seg)) ?_ | exact Sub.seg0 (by repeat (first | exact PickSeg.here | exact PickSeg.all | apply PickSeg.there | apply PickSeg.seg)) | apply Sub.assoc))) ?_
                  refine kt_skip rfl rfl rfl rfl hb101 ?_
                  refine kt_skip rfl rfl rfl rfl hb101 ?_
                  refine kt_one ?_
                  refine kl_skip rfl rfl rfl rfl hb101 (by (repeat (first | exact Sub.refl _ | exact Sub.nil _ | refine Sub.chunk (by repeat (first | exact Pick.here | apply Pick.there | apply Pick.seg)) (by rfl) ?_ | refine Sub.seg (by repeat (first | exact PickSeg.here | exact PickSeg.all | apply PickSeg.there | apply PickSeg.seg)) ?_ | exact Sub.seg0 (by repeat (first | exact PickSeg.here | exact PickSeg.all | apply PickSeg.there | apply PickSeg.seg)) | apply Sub.assoc))) ?_
                  refine kt_skip rfl rfl rfl rfl hb101 ?_
                  refine kt_d rfl rfl rfl (v_pf hb101) ?_
                  refine kt_nil ?_
                  refine kn_then ?_
                  refine kwp_cond_f rfl rfl ?_
                  refine kwp_skip ?_
                  refine kn_block ?_
                  refine kn_then ?_
                  refine kwp_region ?_
                  refine kd (v_mv) ?_
                  refine kd (v_add) ?_
                  refine kd (v_as) ?_
                  refine kops_nil ?_
                  refine kn_then ?_
                  obtain rfl := e_some h91
                  exact ⟨_, (), rfl, hd_mk trivial⟩
              ·
                replace h91 := e_f h91 hc94
                refine kwp_exit ?_
                refine ke_then ?_
                obtain rfl := e_some h91
                refine k_out ?_ rfl
                rintro rfl
                refine ke_block ?_
                exact ⟨_, (), rfl, hd_mk trivial⟩
            · intro z110 y111 _ h112
              refine kn_then ?_
              refine kwp_seq ?_
              refine kwp_region ?_
              refine kd (v_mv) ?_
              refine kd (v_mv) ?_
              refine kd (v_cmp) ?_
              refine kd (v_as) ?_
              refine kops_nil ?_
              refine kn_then ?_
              refine kwp_ret ?_
              obtain rfl := e_some h112
              refine r1 [] ?_
              exact ⟨rfl, rfl⟩

end Go.Proofs.YtpfijnklnljccaaDoor
