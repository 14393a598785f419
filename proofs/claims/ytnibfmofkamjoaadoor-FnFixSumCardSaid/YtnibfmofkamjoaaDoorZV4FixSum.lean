/- What the plain programs return, the functions of the program return; no condition. -/
import Derived.Test.YtnibfmofkamjoaaDoorZQ
import Derived.Test.YtnibfmofkamjoaaDoorZFa
import Derived.Test.YtnibfmofkamjoaaDoorZVbh
import Derived.Test.YtnibfmofkamjoaaDoorZVby
import Derived.Test.YtnibfmofkamjoaaDoorZVbt
namespace Go.Proofs.YtnibfmofkamjoaaDoor
open Go
set_option linter.unusedVariables false
set_option linter.unusedSimpArgs false

set_option maxRecDepth 20000 in
theorem w_spec_DrawFixSum (code0a : Option Addr) (code0n : Nat) (code0c : Nat) {code0 : List UInt8} {r : Survey × Fix} (h : p_spec_DrawFixSum code0 = some r) :
    Triple Tryd.prog 57 [.slice code0a code0n code0c] [⟨.slice code0a code0n code0c, 1, code0.map encB⟩] [] (fun v ch => ∃ (w01a : Option Addr) (w01c : Nat) (w11a : Option Addr) (w11c : Nat), v = .tuple #[.agg #[.int .i64 r.1.st, .slice w01a r.1.legs.length w01c], .agg #[.int .i64 r.2.den, .slice w11a r.2.nums.length w11c]] ∧ ch = [⟨.slice w01a r.1.legs.length w01c, 5, r.1.legs.map encLeg⟩, ⟨.slice w11a r.2.nums.length w11c, 3, r.2.nums.map encWay⟩]) := by
  refine triple_start 9 Tryd.func57 Tryd.ntmps57 rfl rfl (fun w0 => ?_)
  refine k_len (c := code0c) (fun hl1 => ?_)
  subst hl1
  unfold p_spec_DrawFixSum at h
  refine kwp_seq ?_
  refine kwp_region ?_
  refine kops_nilchunk 5 (by decide) ?_
  refine kk (n_alloc (e := [.int .i64 0, .slice none 0 0]) 2 Tryd.zeroValue25 (fun p2_2 => ?_))
  refine kops_nilchunk 3 (by decide) ?_
  refine kk (n_alloc (e := [.int .i64 0, .slice none 0 0]) 2 Tryd.zeroValue31 (fun p3_3 => ?_))
  refine kops_nil ?_
  refine kn_then ?_
  refine kwp_seq ?_
  refine kwp_region ?_
  refine kd (v_mv) ?_
  obtain ⟨v5, hv4, h⟩ := e_bind h
  refine kk (n_call Tryd.call68 (w_spec_l20Open code0a code0.length code0c hv4) ?_)
  rintro _ _ ⟨q6p, q60a, q60c, rfl, hvwq6, rfl⟩
  obtain ⟨⟨v8, v9, v10⟩, hv7, h⟩ := e_bind h
  refine kk (n_call Tryd.call93 (w_spec_l20Fix q6p q60a v5.b.length q60c hv7) ?_ (hv := (Views.cons (by repeat (first | exact mh | apply mt | apply mas | apply ms)) hvwq6 (Views.nil _))))
  rintro _ _ ⟨q111a, q111c, q121a, q121c, rfl, rfl⟩
  refine kd (v_ex) ?_
  refine kd (v_ex) ?_
  refine kk (s_B (e' := [.int .i64 v8.st, .slice q111a v8.legs.length q111c]) Tryd.sizeOf25 ?_)
  refine kk (s_B (e' := [.int .i64 v9.den, .slice q121a v9.nums.length q121c]) Tryd.sizeOf31 ?_)
  refine kops_nil ?_
  refine kn_then ?_
  refine kwp_ret ?_
  obtain rfl := e_some h
  refine rcc Tryd.isAgg25 Tryd.sizeOf25 Tryd.isAgg31 Tryd.sizeOf31 [⟨.slice q111a v8.legs.length q111c, 5, v8.legs.map encLeg⟩, ⟨.slice q121a v9.nums.length q121c, 3, v9.nums.map encWay⟩] ?_
  exact ⟨q111a, q111c, q121a, q121c, rfl, rfl⟩

set_option maxRecDepth 20000 in
set_option maxHeartbeats 2000000 in
theorem w_laws_FnFixSum (code0a : Option Addr) (code0n : Nat) (code0c : Nat) {code0 : List UInt8} {r : Bool} (h : p_laws_FnFixSum code0 = some r) :
    Triple Tryd.prog 12 [.slice code0a code0n code0c] [⟨.slice code0a code0n code0c, 1, code0.map encB⟩, tabC] [] (fun v ch => v = .bool r ∧ ch = []) := by
  refine triple_start 108 Tryd.func12 Tryd.ntmps12 rfl rfl (fun w0 => ?_)
  refine k_len (c := code0c) (fun hl1 => ?_)
  subst hl1
  unfold p_laws_FnFixSum at h
  refine kwp_seq ?_
  refine kwp_region ?_
  refine kd (v_as) ?_
  refine kops_nil ?_
  refine kn_then ?_
  refine kwp_seq ?_
  refine kwp_seq ?_
  refine kwp_region ?_
  refine kd (v_mv) ?_
  refine kd (v_len Tryd.runUnderlying22) ?_
  refine kd (v_cmp) ?_
  refine kops_nil ?_
  refine kn_then ?_
  refine kwp_cond rfl (fun hc2 => ?_) (fun hc2 => ?_)
  ·
    replace h := e_t h hc2
    refine kwp_seq ?_
    refine kwp_region ?_
    refine kd (v_as) ?_
    refine kops_nil ?_
    refine kn_then ?_
    refine kwp_ret ?_
    refine kr_then ?_
    obtain rfl := e_some h
    refine r1 [] ?_
    exact ⟨rfl, rfl⟩
  ·
    replace h := e_f h hc2
    refine kwp_skip ?_
    refine kn_then ?_
    refine kwp_seq ?_
    refine kwp_region ?_
    refine kd (v_mv) ?_
    obtain ⟨⟨v4, v5⟩, hv3, h⟩ := e_bind h
    refine kk (n_call Tryd.call57 (w_spec_DrawFixSum code0a code0.length code0c hv3) ?_)
    rintro _ _ ⟨q61a, q61c, q71a, q71c, rfl, rfl⟩
    refine kd (v_mv) ?_
    refine kd (v_ex) ?_
    refine kd (v_ex) ?_
    refine kops_nilchunk 5 (by decide) ?_
    refine kk (n_alloc (e := [.int .i64 0, .slice none 0 0]) 2 Tryd.zeroValue25 (fun p3_8 => ?_))
    refine kops_nilchunk 3 (by decide) ?_
    refine kk (n_alloc (e := [.int .i64 0, .slice none 0 0]) 2 Tryd.zeroValue31 (fun p4_9 => ?_))
    refine kk (s_B (e' := [.int .i64 v4.st, .slice q61a v4.legs.length q61c]) Tryd.sizeOf25 ?_)
    refine kk (s_B (e' := [.int .i64 v5.den, .slice q71a v5.nums.length q71c]) Tryd.sizeOf31 ?_)
    refine kops_nil ?_
    refine kn_then ?_
    refine kwp_seq ?_
    refine kwp_region ?_
    refine kd (v_ldB Tryd.isAgg25 Tryd.sizeOf25) ?_
    refine kd (v_ldB Tryd.isAgg31 Tryd.sizeOf31) ?_
    obtain ⟨v11, hv10, h⟩ := e_bind h
    refine kk (n_call Tryd.call23 (w_impl_FixSum q61a v4.legs.length q61c q71a v5.nums.length q71c hv10) ?_)
    rintro _ _ ⟨rfl, rfl⟩
    refine kd (v_as) ?_
    refine kops_nil ?_
    refine kn_then ?_
    refine kwp_seq ?_
    refine kwp_seq ?_
    refine kwp_region ?_
    refine kd (v_mv) ?_
    refine kd (v_ldB Tryd.isAgg25 Tryd.sizeOf25) ?_
    refine kd (v_ldB Tryd.isAgg31 Tryd.sizeOf31) ?_
    obtain ⟨v14, hv13, h⟩ := e_bind h
    refine kk (n_call Tryd.call58 (w_spec_FixSum q61a v4.legs.length q61c q71a v5.nums.length q71c hv13) ?_)
    rintro _ _ ⟨rfl, rfl⟩
    refine kd (v_cmp) ?_
    refine kops_nil ?_
    refine kn_then ?_
    refine kwp_cond rfl (fun hc16 => ?_) (fun hc16 => ?_)
    ·
      replace h := e_t h hc16
      refine kwp_seq ?_
      refine kwp_region ?_
      refine kd (v_as) ?_
      refine kops_nil ?_
      refine kn_then ?_
      refine kwp_ret ?_
      refine kr_then ?_
      obtain rfl := e_some h
      refine r1 [] ?_
      exact ⟨rfl, rfl⟩
    ·
      replace h := e_f h hc16
      refine kwp_skip ?_
      refine kn_then ?_
      refine kwp_seq ?_
      refine kwp_seq ?_
      refine kwp_region ?_
      refine kd (v_mv) ?_
      refine kd (v_cmp) ?_
      refine kops_nil ?_
      refine kn_then ?_
      refine kwp_cond rfl (fun hc17 => ?_) (fun hc17 => ?_)
      ·
        replace h := e_t h hc17
        refine kwp_seq ?_
        refine kwp_region ?_
        refine kd (v_mv) ?_
        refine kd (v_cmp) ?_
        refine kd (v_mv) ?_
        refine kops_split 33 rfl (fun hb18 => ?_) (fun hb18 => ?_)
        ·
          replace h := e_t h hb18
          obtain ⟨v20, hv19, h⟩ := e_bind h
          refine kgk hb18 (n_call Tryd.call19 (w_laws_alive hv19) ?_)
          rintro _ _ ⟨rfl, rfl⟩
          refine kd (v_pt hb18) ?_
          refine kd (v_as) ?_
          refine kops_nil ?_
          refine kn_then ?_
          refine kwp_ret ?_
          refine kr_then ?_
          obtain rfl := e_some h
          refine r1 [] ?_
          exact ⟨rfl, rfl⟩
        ·
          replace h := e_f h hb18
          refine kskip hb18 ?_
          refine kd (v_pf hb18) ?_
          refine kd (v_as) ?_
          refine kops_nil ?_
          refine kn_then ?_
          refine kwp_ret ?_
          refine kr_then ?_
          obtain rfl := e_some h
          refine r1 [] ?_
          exact ⟨rfl, rfl⟩
      ·
        replace h := e_f h hc17
        refine kwp_skip ?_
        refine kn_then ?_
        refine kwp_seq ?_
        refine kwp_region ?_
        refine kd (v_ldB Tryd.isAgg25 Tryd.sizeOf25) ?_
        obtain ⟨⟨v23, v24⟩, hv22, h⟩ := e_bind h
        refine kk (n_call Tryd.call21 (w_impl_Adjust q61a v4.legs.length q61c hv22) ?_)
        rintro _ _ ⟨q251a, q251c, rfl, rfl⟩
        refine kd (v_mv) ?_
        refine kd (v_ex) ?_
        refine kd (v_ex) ?_
        refine kops_nilchunk 3 (by decide) ?_
        refine kk (n_alloc (e := [.int .i64 0, .slice none 0 0]) 2 Tryd.zeroValue31 (fun p6_27 => ?_))
        refine kk (s_B (e' := [.int .i64 v23.den, .slice q251a v23.nums.length q251c]) Tryd.sizeOf31 ?_)
        refine kd (v_as) ?_
        refine kops_nil ?_
        refine kn_then ?_
        refine kwp_seq ?_
        refine kwp_seq ?_
        refine kwp_region ?_
        refine kd (v_mv) ?_
        refine kd (v_not) ?_
        refine kops_nil ?_
        refine kn_then ?_
        refine kwp_cond rfl (fun hc28 => ?_) (fun hc28 => ?_)
        ·
          replace h := e_t h hc28
          refine kwp_seq ?_
          refine kwp_region ?_
          refine kd (v_as) ?_
          refine kops_nil ?_
          refine kn_then ?_
          refine kwp_ret ?_
          refine kr_then ?_
          obtain rfl := e_some h
          refine r1 [] ?_
          exact ⟨rfl, rfl⟩
        ·
          replace h := e_f h hc28
          refine kwp_skip ?_
          refine kn_then ?_
          refine kwp_seq ?_
          refine kwp_region ?_
          refine kd (v_ldB Tryd.isAgg25 Tryd.sizeOf25) ?_
          refine kd (v_ldB Tryd.isAgg31 Tryd.sizeOf31) ?_
          obtain ⟨v30, hv29, h⟩ := e_bind h
          refine kk (n_call Tryd.call23 (w_impl_FixSum q61a v4.legs.length q61c q251a v23.nums.length q251c hv29) ?_)
          rintro _ _ ⟨rfl, rfl⟩
          refine kd (v_as) ?_
          refine kops_nil ?_
          refine kn_then ?_
          refine kwp_seq ?_
          refine kwp_region ?_
          refine kd (v_as) ?_
          refine kops_nil ?_
          refine kn_then ?_
          refine kwp_seq ?_
          refine kwp_seq ?_
          refine kwp_region ?_
          refine kd (v_as) ?_
          refine kops_nil ?_
          refine kn_then ?_
          refine kwp_cutE (inv := [(4, .pointer (some p4_9)), (5, .int .i64 v11), (6, .pointer (some p6_27)), (8, .int .i64 v30)]) (fun (z : Bool) (y : Unit) => [(9, .bool z)]) (fun (z : Bool) (y : Unit) => [⟨.pointer (some p4_9), 2, [[.int .i64 v5.den, .slice q71a v5.nums.length q71c]]⟩, ⟨.slice q71a v5.nums.length q71c, 3, v5.nums.map encWay⟩, ⟨.pointer (some p6_27), 2, [[.int .i64 v23.den, .slice q251a v23.nums.length q251c]]⟩, ⟨.slice q251a v23.nums.length q251c, 3, v23.nums.map encWay⟩]) (fun _ _ => True) h ?_ ?_
          · intro t35 h33
            refine kwp_block ?_
            refine kwp_loopE (inv := [(4, .pointer (some p4_9)), (5, .int .i64 v11), (6, .pointer (some p6_27)), (8, .int .i64 v30)]) (fun (z : Bool × Int) (y : Unit) => [(9, .bool z.1), (10, .int .i64 z.2)]) (fun (z : Bool × Int) (y : Unit) => [⟨.pointer (some p4_9), 2, [[.int .i64 v5.den, .slice q71a v5.nums.length q71c]]⟩, ⟨.slice q71a v5.nums.length q71c, 3, v5.nums.map encWay⟩, ⟨.pointer (some p6_27), 2, [[.int .i64 v23.den, .slice q251a v23.nums.length q251c]]⟩, ⟨.slice q251a v23.nums.length q251c, 3, v23.nums.map encWay⟩]) (fun _ _ => True) h33 ⟨(), hd_mk trivial⟩ ?_
            intro z40 y41 b38 _ h39
            obtain ⟨same36, k37⟩ := z40
            unfold p_laws_FnFixSum_L0 at h39
            refine kwp_seq ?_
            refine kwp_seq ?_
            refine kwp_cutE (inv := [(4, .pointer (some p4_9)), (5, .int .i64 v11), (6, .pointer (some p6_27)), (8, .int .i64 v30), (9, .bool same36), (10, .int .i64 k37)]) (fun (z : Bool) (y : Unit) => [(57, .bool z)]) (fun (z : Bool) (y : Unit) => [⟨.pointer (some p4_9), 2, [[.int .i64 v5.den, .slice q71a v5.nums.length q71c]]⟩, ⟨.slice q71a v5.nums.length q71c, 3, v5.nums.map encWay⟩, ⟨.pointer (some p6_27), 2, [[.int .i64 v23.den, .slice q251a v23.nums.length q251c]]⟩, ⟨.slice q251a v23.nums.length q251c, 3, v23.nums.map encWay⟩]) (fun _ _ => True) h39 ?_ ?_
            · intro t45 h43
              refine kwp_region ?_
              refine kd (v_mv) ?_
              refine kd (v_fb fa_31_1) ?_
              refine kd (v_ldb Tryd.isAgg29) ?_
              refine kd (v_len Tryd.runUnderlying29) ?_
              refine kd (v_cmp) ?_
              refine kd (v_mv) ?_
              refine kops_split 51 rfl (fun hb46 => ?_) (fun hb46 => ?_)
              ·
                replace h43 := e_t h43 hb46
                refine kgd hb46 (v_mv) ?_
                refine kgd hb46 (v_fb fa_31_1) ?_
                refine kgd hb46 (v_ldb Tryd.isAgg29) ?_
                refine kgd hb46 (v_len Tryd.runUnderlying29) ?_
                refine kgd hb46 (v_cmp) ?_
                refine kd (v_pt hb46) ?_
                refine kops_nil ?_
                refine kn_then ?_
                obtain rfl := e_some h43
                exact ⟨(), hd_mk trivial⟩
              ·
                replace h43 := e_f h43 hb46
                refine kskip hb46 ?_
                refine kskip hb46 ?_
                refine kskip hb46 ?_
                refine kskip hb46 ?_
                refine kskip hb46 ?_
                refine kd (v_pf hb46) ?_
                refine kops_nil ?_
                refine kn_then ?_
                obtain rfl := e_some h43
                exact ⟨(), hd_mk trivial⟩
            · intro x42 y48 _ h49
              refine kn_then ?_
              refine kwp_cond rfl (fun hc50 => ?_) (fun hc50 => ?_)
              ·
                replace h49 := e_t h49 hc50
                refine kwp_skip ?_
                refine kn_then ?_
                refine kwp_seq ?_
                refine kwp_block ?_
                refine sp same36 (fun hb51 => ?_) (fun hb51 => ?_)
                ·
                  replace h49 := e_t h49 hb51
                  obtain ⟨j52, ej52, nj52, h49⟩ := e_idx h49
                  obtain ⟨v54, hv53, h49⟩ := e_bind h49
                  obtain ⟨j56, ej56, nj56, h49⟩ := e_idx h49
                  obtain ⟨v58, hv57, h49⟩ := e_bind h49
                  refine kwp_tree (.quiet 0 (.quiet 1 (.quiet 2 (.quiet 3 (.quiet 4 (.quiet 5 (.quiet 6 (.quiet 7 (.quiet 8 (.quiet 10 (.quiet 11 (.quiet 12 (.quiet 13 (.quiet 14 (.quiet 15 (.quiet 16 (.one 9 (.one 17 (.quiet 18 (.quiet 19 (.quiet 20 .stop))))))))))))))))))))) [] [⟨.slice q71a v5.nums.length q71c, 3, v5.nums.map encWay⟩, ⟨.pointer (some p4_9), 2, [[.int .i64 v5.den, .slice q71a v5.nums.length q71c]]⟩, ⟨.slice q251a v23.nums.length q251c, 3, v23.nums.map encWay⟩, ⟨.pointer (some p6_27), 2, [[.int .i64 v23.den, .slice q251a v23.nums.length q251c]]⟩] drawMixed (by kernel_rfl) nopan (by (repeat (first | exact Sub.refl _ | exact Sub.nil _ | refine Sub.chunk (by repeat (first | exact Pick.here | apply Pick.there | apply Pick.seg)) (by rfl) ?_ | refine Sub.seg (by repeat (first | exact PickSeg.here | exact PickSeg.all | apply PickSeg.there | apply PickSeg.seg)) ?_ | exact Sub.seg0 (by repeat (first | exact PickSeg.here | exact PickSeg.all | apply PickSeg.there | apply PickSeg.seg)) | apply Sub.assoc))) ?_
                  refine kt_d rfl rfl rfl (v_mv) ?_
                  refine kt_d rfl rfl rfl (v_mv) ?_
                  refine kt_gv rfl rfl rfl rfl hb51 (v_fb fa_31_1) ?_
                  refine kt_gv rfl rfl rfl rfl hb51 (v_ldb Tryd.isAgg29) ?_
                  refine kt_gv rfl rfl rfl rfl hb51 (v_mv) ?_
                  refine kt_gv rfl rfl rfl rfl hb51 (v_ia ej52 nj52 Tryd.runUnderlying29 Tryd.sizeOf37) ?_
                  refine kt_gv rfl rfl rfl rfl hb51 (v_lda (e := [_, _, _]) nj52 Tryd.isAgg37 Tryd.sizeOf37) ?_
                  refine kt_gv rfl rfl rfl rfl hb51 (v_fb fa_31_0) ?_
                  refine kt_gv rfl rfl rfl rfl hb51 (v_ldb Tryd.isAgg3) ?_
                  refine kt_gv rfl rfl rfl rfl hb51 (v_fb fa_31_1) ?_
                  refine kt_gv rfl rfl rfl rfl hb51 (v_ldb Tryd.isAgg29) ?_
                  refine kt_gv rfl rfl rfl rfl hb51 (v_mv) ?_
                  refine kt_gv rfl rfl rfl rfl hb51 (v_ia ej56 nj56 Tryd.runUnderlying29 Tryd.sizeOf37) ?_
                  refine kt_gv rfl rfl rfl rfl hb51 (v_lda (e := [_, _, _]) nj56 Tryd.isAgg37 Tryd.sizeOf37) ?_
                  refine kt_gv rfl rfl rfl rfl hb51 (v_fb fa_31_0) ?_
                  refine kt_gv rfl rfl rfl rfl hb51 (v_ldb Tryd.isAgg3) ?_
                  refine kt_one ?_
                  refine kl_gk rfl rfl rfl rfl hb51 (n_call Tryd.call32 (w_impl_WayTimes hv53) ?_)
                  rintro _ _ ⟨rfl, rfl⟩
                  refine ⟨.inl (by (repeat (first | exact Sub.refl _ | exact Sub.nil _ | refine Sub.chunk (by repeat (first | exact Pick.here | apply Pick.there | apply Pick.seg)) (by rfl) ?_ | refine Sub.seg (by repeat (first | exact PickSeg.here | exact PickSeg.all | apply PickSeg.there | apply PickSeg.seg)) ?_ | exact Sub.seg0 (by repeat (first | exact PickSeg.here | exact PickSeg.all | apply PickSeg.there | apply PickSeg.seg)) | apply Sub.assoc))), ?_⟩
                  refine kt_one ?_
                  refine kl_gk rfl rfl rfl rfl hb51 (n_call Tryd.call32 (w_impl_WayTimes hv57) ?_)
                  rintro _ _ ⟨rfl, rfl⟩
                  refine ⟨.inl (by (repeat (first | exact Sub.refl _ | exact Sub.nil _ | refine Sub.chunk (by repeat (first | exact Pick.here | apply Pick.there | apply Pick.seg)) (by rfl) ?_ | refine Sub.seg (by repeat (first | exact PickSeg.here | exact PickSeg.all | apply PickSeg.there | apply PickSeg.seg)) ?_ | exact Sub.seg0 (by repeat (first | exact PickSeg.here | exact PickSeg.all | apply PickSeg.there | apply PickSeg.seg)) | apply Sub.assoc))), ?_⟩
                  refine kt_gv rfl rfl rfl rfl hb51 (v_eqa eg_37 he_37 hp_37 (eqf_37 _ _ _ _ _ _)) ?_
                  refine kt_d rfl rfl rfl (v_pt hb51) ?_
                  refine kt_d rfl rfl rfl (v_as) ?_
                  refine kt_nil ?_
                  refine kn_block ?_
                  refine kn_then ?_
                  refine kwp_region ?_
                  refine kd (v_mv) ?_
                  refine kd (v_add) ?_
                  refine kd (v_as) ?_
                  refine kops_nil ?_
                  refine kn_then ?_
                  obtain rfl := e_some h49
                  exact ⟨_, (), rfl, hd_mk trivial⟩
                ·
                  replace h49 := e_f h49 hb51
                  refine kwp_tree (.quiet 0 (.quiet 1 (.quiet 2 (.quiet 3 (.quiet 4 (.quiet 5 (.quiet 6 (.quiet 7 (.quiet 8 (.quiet 10 (.quiet 11 (.quiet 12 (.quiet 13 (.quiet 14 (.quiet 15 (.quiet 16 (.one 9 (.one 17 (.quiet 18 (.quiet 19 (.quiet 20 .stop))))))))))))))))))))) [] [] drawMixed (by kernel_rfl) nopan (by (repeat (first | exact Sub.refl _ | exact Sub.nil _ | refine Sub.chunk (by repeat (first | exact Pick.here | apply Pick.there | apply Pick.seg)) (by rfl) ?_ | refine Sub.seg (by repeat (first | exact PickSeg.here | exact PickSeg.all | apply PickSeg.there | apply PickSeg.seg)) ?_ | exact Sub.seg0 (by repeat (first | exact PickSeg.here | exact PickSeg.all | apply PickSeg.there | apply PickSeg.seg)) | apply Sub.assoc))) ?_
                  refine kt_d rfl rfl rfl (v_mv) ?_
                  refine kt_d rfl rfl rfl (v_mv) ?_
                  refine kt_skip rfl rfl rfl rfl hb51 ?_
                  refine kt_skip rfl rfl rfl rfl hb51 ?_
                  refine kt_skip rfl rfl rfl rfl hb51 ?_
                  refine kt_skip rfl rfl rfl rfl hb51 ?_
                  refine kt_skip rfl rfl rfl rfl hb51 ?_
                  refine kt_skip rfl rfl rfl rfl hb51 ?_
                  refine kt_skip rfl rfl rfl rfl hb51 ?_
                  refine kt_skip rfl rfl rfl rfl hb51 ?_
                  refine kt_skip rfl rfl rfl rfl hb51 ?_
                  refine kt_skip rfl rfl rfl rfl hb51 ?_
                  refine kt_skip rfl rfl rfl rfl hb51 ?_
                  refine kt_skip rfl rfl rfl rfl hb51 ?_
                  refine kt_skip rfl rfl rfl rfl hb51 ?_
                  refine kt_skip rfl rfl rfl rfl hb51 ?_
                  refine kt_one ?_
                  refine kl_skip rfl rfl rfl rfl hb51 (by (repeat (first | exact Sub.refl _ | exact Sub.nil _ | refine Sub.chunk (by repeat (first | exact Pick.here | apply Pick.there | apply Pick.seg)) (by rfl) ?_ | refine Sub.seg (by repeat (first | exact PickSeg.here | exact PickSeg.all | apply PickSeg.there | apply PickSeg.seg)) ?_ | exact Sub.seg0 (by repeat (first | exact PickSeg.here | exact PickSeg.all | apply PickSeg.there | apply PickSeg.seg)) | apply Sub.assoc))) ?_
                  refine kt_one ?_
                  refine kl_skip rfl rfl rfl rfl hb51 (by (repeat (first | exact Sub.refl _ | exact Sub.nil _ | refine Sub.chunk (by repeat (first | exact Pick.here | apply Pick.there | apply Pick.seg)) (by rfl) ?_ | refine Sub.seg (by repeat (first | exact PickSeg.here | exact PickSeg.all | apply PickSeg.there | apply PickSeg.seg)) ?_ | exact Sub.seg0 (by repeat (first | exact PickSeg.here | exact PickSeg.all | apply PickSeg.there | apply PickSeg.seg)) | apply Sub.assoc))) ?_
                  refine kt_skip rfl rfl rfl rfl hb51 ?_
                  refine kt_d rfl rfl rfl (v_pf hb51) ?_
                  refine kt_d rfl rfl rfl (v_as) ?_
                  refine kt_nil ?_
                  refine kn_block ?_
                  refine kn_then ?_
                  refine kwp_region ?_
                  refine kd (v_mv) ?_
                  refine kd (v_add) ?_
                  refine kd (v_as) ?_
                  refine kops_nil ?_
                  refine kn_then ?_
                  obtain rfl := e_some h49
                  exact ⟨_, (), rfl, hd_mk trivial⟩
              ·
                replace h49 := e_f h49 hc50
                refine kwp_exit ?_
                refine ke_then ?_
                obtain rfl := e_some h49
                refine k_out ?_ rfl
                rintro rfl
                refine ke_block ?_
                exact ⟨(), hd_mk trivial⟩
          · intro same32 y61 _ h62
            refine kn_then ?_
            refine kwp_seq ?_
            refine kwp_region ?_
            refine kd (v_mv) ?_
            refine kd (v_fb fa_31_0) ?_
            refine kd (v_ldb Tryd.isAgg3) ?_
            refine kd (v_mul) ?_
            refine kd (v_fb fa_31_0) ?_
            refine kd (v_ldb Tryd.isAgg3) ?_
            refine kd (v_mul) ?_
            refine kd (v_as) ?_
            refine kops_nil ?_
            refine kn_then ?_
            refine kwp_seq ?_
            refine kwp_region ?_
            refine kd (v_mv) ?_
            refine kd (v_fb fa_31_0) ?_
            refine kd (v_ldb Tryd.isAgg3) ?_
            refine kd (v_mul) ?_
            refine kd (v_fb fa_31_0) ?_
            refine kd (v_ldb Tryd.isAgg3) ?_
            refine kd (v_mul) ?_
            refine kd (v_as) ?_
            refine kops_nil ?_
            refine kn_then ?_
            refine kwp_seq ?_
            refine kwp_region ?_
            refine kd (v_mv) ?_
            refine kd (v_cmp) ?_
            refine kd (v_mv) ?_
            refine kops_split 96 rfl (fun hb63 => ?_) (fun hb63 => ?_)
            ·
              replace h62 := e_t h62 hb63
              refine kgd hb63 (v_mv) ?_
              refine kgd hb63 (v_mv) ?_
              refine kgd hb63 (v_cmp) ?_
              refine kd (v_pt hb63) ?_
              refine kd (v_mv) ?_
              refine kops_split 101 rfl (fun hb64 => ?_) (fun hb64 => ?_)
              ·
                replace h62 := e_t h62 hb64
                refine kgd hb64 (v_mv) ?_
                refine kgd hb64 (v_mv) ?_
                refine kgd hb64 (v_cmp) ?_
                refine kgd hb64 (v_mv) ?_
                refine kgd hb64 (v_eqb Tryd.underlying4) ?_
                refine kd (v_pt hb64) ?_
                refine kd (v_as) ?_
                refine kops_nil ?_
                refine kn_then ?_
                refine kwp_ret ?_
                obtain rfl := e_some h62
                refine r1 [] ?_
                exact ⟨rfl, rfl⟩
              ·
                replace h62 := e_f h62 hb64
                refine kskip hb64 ?_
                refine kskip hb64 ?_
                refine kskip hb64 ?_
                refine kskip hb64 ?_
                refine kskip hb64 ?_
                refine kd (v_pf hb64) ?_
                refine kd (v_as) ?_
                refine kops_nil ?_
                refine kn_then ?_
                refine kwp_ret ?_
                obtain rfl := e_some h62
                refine r1 [] ?_
                exact ⟨rfl, rfl⟩
            ·
              replace h62 := e_f h62 hb63
              refine kskip hb63 ?_
              refine kskip hb63 ?_
              refine kskip hb63 ?_
              refine kd (v_pf hb63) ?_
              refine kd (v_mv) ?_
              refine kskip rfl ?_
              refine kskip rfl ?_
              refine kskip rfl ?_
              refine kskip rfl ?_
              refine kskip rfl ?_
              refine kd (v_pf rfl) ?_
              refine kd (v_as) ?_
              refine kops_nil ?_
              refine kn_then ?_
              refine kwp_ret ?_
              obtain rfl := e_some h62
              refine r1 [] ?_
              exact ⟨rfl, rfl⟩

end Go.Proofs.YtnibfmofkamjoaaDoor
