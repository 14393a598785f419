/- What the plain programs return, the functions of the program return; no condition. -/
import Derived.Test.YtnibfmofkamjoaaDoorZQ
import Derived.Test.YtnibfmofkamjoaaDoorZFa
import Derived.Test.YtnibfmofkamjoaaDoorZVbh
import Derived.Test.YtnibfmofkamjoaaDoorZVby
import Derived.Test.YtnibfmofkamjoaaDoorZVbz
import Derived.Test.YtnibfmofkamjoaaDoorZVbt
namespace Go.Proofs.YtnibfmofkamjoaaDoor
open Go
set_option linter.unusedVariables false
set_option linter.unusedSimpArgs false

set_option maxRecDepth 20000 in
theorem w_spec_DrawFixMiss (code0a : Option Addr) (code0n : Nat) (code0c : Nat) {code0 : List UInt8} {r : Survey × Fix × Int} (h : p_spec_DrawFixMiss code0 = some r) :
    Triple Tryd.prog 53 [.slice code0a code0n code0c] [⟨.slice code0a code0n code0c, 1, code0.map encB⟩] [] (fun v ch => ∃ (w01a : Option Addr) (w01c : Nat) (w11a : Option Addr) (w11c : Nat), v = .tuple #[.agg #[.int .i64 r.1.st, .slice w01a r.1.legs.length w01c], .agg #[.int .i64 r.2.1.den, .slice w11a r.2.1.nums.length w11c], .int .i64 r.2.2] ∧ ch = [⟨.slice w01a r.1.legs.length w01c, 5, r.1.legs.map encLeg⟩, ⟨.slice w11a r.2.1.nums.length w11c, 3, r.2.1.nums.map encWay⟩]) := by
  refine triple_start 20 Tryd.func53 Tryd.ntmps53 rfl rfl (fun w0 => ?_)
  refine k_len (c := code0c) (fun hl1 => ?_)
  subst hl1
  unfold p_spec_DrawFixMiss at h
  refine kwp_seq ?_
  refine kwp_region ?_
  refine kops_nilchunk 5 (by decide) ?_
  refine kk (n_alloc (e := [.int .i64 0, .slice none 0 0]) 2 Tryd.zeroValue25 (fun p2_2 => ?_))
  refine kops_nilchunk 3 (by decide) ?_
  refine kk (n_alloc (e := [.int .i64 0, .slice none 0 0]) 2 Tryd.zeroValue31 (fun p3_3 => ?_))
  refine kd (v_as) ?_
  refine kops_nil ?_
  refine kn_then ?_
  refine kwp_seq ?_
  refine kwp_region ?_
  refine kd (v_mv) ?_
  obtain ⟨v5, hv4, h⟩ := e_bind h
  refine kk (n_call Tryd.call68 (w_spec_l20Open code0a code0.length code0c hv4) ?_)
  rintro _ _ ⟨q6p, q60a, q60c, rfl, hvwq6, rfl⟩
  refine kd (v_as) ?_
  refine kops_nil ?_
  refine kn_then ?_
  refine kwp_seq ?_
  refine kwp_region ?_
  refine kd (v_mv) ?_
  obtain ⟨⟨v8, v9, v10⟩, hv7, h⟩ := e_bind h
  refine kk (n_call Tryd.call93 (w_spec_l20Fix q6p q60a v5.b.length q60c hv7) ?_ (hv := (Views.cons (by repeat (first | exact mh | apply mt | apply mas | apply ms)) hvwq6 (Views.nil _))))
  rintro _ _ ⟨q111a, q111c, q121a, q121c, rfl, rfl⟩
  refine kd (v_mv) ?_
  refine kd (v_ex) ?_
  refine kd (v_ex) ?_
  refine kops_nilchunk 5 (by decide) ?_
  refine kk (n_alloc (e := [.int .i64 0, .slice none 0 0]) 2 Tryd.zeroValue25 (fun p6_13 => ?_))
  refine kops_nilchunk 3 (by decide) ?_
  refine kk (n_alloc (e := [.int .i64 0, .slice none 0 0]) 2 Tryd.zeroValue31 (fun p7_14 => ?_))
  refine kk (s_B (e' := [.int .i64 v8.st, .slice q111a v8.legs.length q111c]) Tryd.sizeOf25 ?_)
  refine kk (s_B (e' := [.int .i64 v9.den, .slice q121a v9.nums.length q121c]) Tryd.sizeOf31 ?_)
  refine kops_nil ?_
  refine kn_then ?_
  refine kwp_seq ?_
  obtain ⟨⟨v16, v17⟩, hv15, h⟩ := e_bind h
  refine kwp_tree (.quiet 0 (.quiet 1 (.quiet 2 (.quiet 3 (.one 4 (.one 5 (.one 6 (.quiet 7 .stop)))))))) [] [⟨.pointer (some p6_13), 2, [[.int .i64 v8.st, .slice q111a v8.legs.length q111c]]⟩, ⟨.pointer (some p7_14), 2, [[.int .i64 v9.den, .slice q121a v9.nums.length q121c]]⟩] drawMixed (by kernel_rfl) nopan (by (repeat (first | exact Sub.refl _ | exact Sub.nil _ | refine Sub.chunk (by repeat (first | exact Pick.here | apply Pick.there | apply Pick.seg)) (by rfl) ?_ | refine Sub.seg (by repeat (first | exact PickSeg.here | exact PickSeg.all | apply PickSeg.there | apply PickSeg.seg)) ?_ | exact Sub.seg0 (by repeat (first | exact PickSeg.here | exact PickSeg.all | apply PickSeg.there | apply PickSeg.seg)) | apply Sub.assoc))) ?_
  refine kt_d rfl rfl rfl (v_ldB Tryd.isAgg25 Tryd.sizeOf25) ?_
  refine kt_d rfl rfl rfl (v_ldB Tryd.isAgg31 Tryd.sizeOf31) ?_
  refine kt_d rfl rfl rfl (v_mv) ?_
  refine kt_d rfl rfl rfl (v_ldB Tryd.isAgg25 Tryd.sizeOf25) ?_
  refine kt_one ?_
  refine kl_k rfl rfl (n_call Tryd.call89 (w_spec_l20Index q6p q60a v5.b.length q60c q111a v8.legs.length q111c hv15) ?_ (hv := (Views.cons (by repeat (first | exact mh | apply mt | apply mas | apply ms)) hvwq6 (Views.cons (by repeat (first | exact mh | apply mt | apply mas | apply ms)) (View.refl _) (Views.nil _)))))
  rintro _ _ ⟨rfl, rfl⟩
  refine ⟨.inl (by (repeat (first | exact Sub.refl _ | exact Sub.nil _ | refine Sub.chunk (by repeat (first | exact Pick.here | apply Pick.there | apply Pick.seg)) (by rfl) ?_ | refine Sub.seg (by repeat (first | exact PickSeg.here | exact PickSeg.all | apply PickSeg.there | apply PickSeg.seg)) ?_ | exact Sub.seg0 (by repeat (first | exact PickSeg.here | exact PickSeg.all | apply PickSeg.there | apply PickSeg.seg)) | apply Sub.assoc))), ?_⟩
  refine kt_one ?_
  refine kl_k rfl rfl (s_B (e' := [.int .i64 v8.st, .slice q111a v8.legs.length q111c]) Tryd.sizeOf25 ?_)
  refine ⟨.inl (by (repeat (first | exact Sub.refl _ | exact Sub.nil _ | refine Sub.chunk (by repeat (first | exact Pick.here | apply Pick.there | apply Pick.seg)) (by rfl) ?_ | refine Sub.seg (by repeat (first | exact PickSeg.here | exact PickSeg.all | apply PickSeg.there | apply PickSeg.seg)) ?_ | exact Sub.seg0 (by repeat (first | exact PickSeg.here | exact PickSeg.all | apply PickSeg.there | apply PickSeg.seg)) | apply Sub.assoc))), ?_⟩
  refine kt_one ?_
  refine kl_k rfl rfl (s_B (e' := [.int .i64 v9.den, .slice q121a v9.nums.length q121c]) Tryd.sizeOf31 ?_)
  refine ⟨.inl (by (repeat (first | exact Sub.refl _ | exact Sub.nil _ | refine Sub.chunk (by repeat (first | exact Pick.here | apply Pick.there | apply Pick.seg)) (by rfl) ?_ | refine Sub.seg (by repeat (first | exact PickSeg.here | exact PickSeg.all | apply PickSeg.there | apply PickSeg.seg)) ?_ | exact Sub.seg0 (by repeat (first | exact PickSeg.here | exact PickSeg.all | apply PickSeg.there | apply PickSeg.seg)) | apply Sub.assoc))), ?_⟩
  refine kt_d rfl rfl rfl (v_as) ?_
  refine kt_nil ?_
  refine kn_then ?_
  refine kwp_ret ?_
  obtain rfl := e_some h
  refine rcc1 Tryd.isAgg25 Tryd.sizeOf25 Tryd.isAgg31 Tryd.sizeOf31 [⟨.slice q111a v8.legs.length q111c, 5, v8.legs.map encLeg⟩, ⟨.slice q121a v9.nums.length q121c, 3, v9.nums.map encWay⟩] ?_
  exact ⟨q111a, q111c, q121a, q121c, rfl, rfl⟩

set_option maxRecDepth 20000 in
set_option maxHeartbeats 2000000 in
theorem w_laws_FnFixMiss (code0a : Option Addr) (code0n : Nat) (code0c : Nat) {code0 : List UInt8} {r : Bool} (h : p_laws_FnFixMiss code0 = some r) :
    Triple Tryd.prog 11 [.slice code0a code0n code0c] [⟨.slice code0a code0n code0c, 1, code0.map encB⟩, tabC] [] (fun v ch => v = .bool r ∧ ch = []) := by
  refine triple_start 107 Tryd.func11 Tryd.ntmps11 rfl rfl (fun w0 => ?_)
  refine k_len (c := code0c) (fun hl1 => ?_)
  subst hl1
  unfold p_laws_FnFixMiss at h
  refine kwp_seq ?_
  refine kwp_region ?_
  refine kd (v_as) ?_
  refine kops_nil ?_
  refine kn_then ?_
  refine kwp_seq ?_
  refine kwp_seq ?_
  refine kwp_region ?_
  refine kd (v_mv) ?_
  refine kd (v_len Tryd.runUnderlying22) ?_
  refine kd (v_cmp) ?_
  refine kops_nil ?_
  refine kn_then ?_
  refine kwp_cond rfl (fun hc2 => ?_) (fun hc2 => ?_)
  ·
    replace h := e_t h hc2
    refine kwp_seq ?_
    refine kwp_region ?_
    refine kd (v_as) ?_
    refine kops_nil ?_
    refine kn_then ?_
    refine kwp_ret ?_
    refine kr_then ?_
    obtain rfl := e_some h
    refine r1 [] ?_
    exact ⟨rfl, rfl⟩
  ·
    replace h := e_f h hc2
    refine kwp_skip ?_
    refine kn_then ?_
    refine kwp_seq ?_
    refine kwp_region ?_
    refine kd (v_mv) ?_
    obtain ⟨⟨v4, v5, v6⟩, hv3, h⟩ := e_bind h
    refine kk (n_call Tryd.call53 (w_spec_DrawFixMiss code0a code0.length code0c hv3) ?_)
    rintro _ _ ⟨q71a, q71c, q81a, q81c, rfl, rfl⟩
    refine kd (v_mv) ?_
    refine kd (v_ex) ?_
    refine kd (v_ex) ?_
    refine kd (v_ex) ?_
    refine kops_nilchunk 5 (by decide) ?_
    refine kk (n_alloc (e := [.int .i64 0, .slice none 0 0]) 2 Tryd.zeroValue25 (fun p3_10 => ?_))
    refine kops_nilchunk 3 (by decide) ?_
    refine kk (n_alloc (e := [.int .i64 0, .slice none 0 0]) 2 Tryd.zeroValue31 (fun p4_11 => ?_))
    refine kk (s_B (e' := [.int .i64 v4.st, .slice q71a v4.legs.length q71c]) Tryd.sizeOf25 ?_)
    refine kk (s_B (e' := [.int .i64 v5.den, .slice q81a v5.nums.length q81c]) Tryd.sizeOf31 ?_)
    refine kd (v_as) ?_
    refine kops_nil ?_
    refine kn_then ?_
    refine kwp_seq ?_
    refine kwp_region ?_
    refine kd (v_ldB Tryd.isAgg25 Tryd.sizeOf25) ?_
    refine kd (v_ldB Tryd.isAgg31 Tryd.sizeOf31) ?_
    refine kd (v_mv) ?_
    obtain ⟨⟨v13, v14⟩, hv12, h⟩ := e_bind h
    refine kk (n_call Tryd.call20 (w_impl_FixMiss q71a v4.legs.length q71c q81a v5.nums.length q81c hv12) ?_)
    rintro _ _ ⟨rfl, rfl⟩
    refine kd (v_mv) ?_
    refine kd (v_ex) ?_
    refine kd (v_ex) ?_
    refine kk (n_alloc (e := [.int .i64 0, .int .i64 0, .int .i64 0]) 3 Tryd.zeroValue37 (fun p6_17 => ?_))
    refine kk (s_B (e' := [.int .i64 v13.e, .int .i64 v13.n, .int .i64 v13.u]) Tryd.sizeOf37 ?_)
    refine kd (v_as) ?_
    refine kops_nil ?_
    refine kn_then ?_
    refine kwp_seq ?_
    refine kwp_region ?_
    refine kd (v_ldB Tryd.isAgg25 Tryd.sizeOf25) ?_
    refine kd (v_ldB Tryd.isAgg31 Tryd.sizeOf31) ?_
    refine kd (v_mv) ?_
    obtain ⟨⟨v19, v20⟩, hv18, h⟩ := e_bind h
    refine kk (n_call Tryd.call54 (w_spec_FixMiss q71a v4.legs.length q71c q81a v5.nums.length q81c hv18) ?_)
    rintro _ _ ⟨rfl, rfl⟩
    refine kd (v_mv) ?_
    refine kd (v_ex) ?_
    refine kd (v_ex) ?_
    refine kk (n_alloc (e := [.int .i64 0, .int .i64 0, .int .i64 0]) 3 Tryd.zeroValue37 (fun p8_23 => ?_))
    refine kk (s_B (e' := [.int .i64 v19.e, .int .i64 v19.n, .int .i64 v19.u]) Tryd.sizeOf37 ?_)
    refine kd (v_as) ?_
    refine kops_nil ?_
    refine kn_then ?_
    refine kwp_seq ?_
    refine kwp_seq ?_
    refine kwp_cutE (inv := [(3, .pointer (some p3_10)), (4, .pointer (some p4_11)), (5, .int .i64 v6), (6, .pointer (some p6_17)), (7, .bool v14)]) (fun (z : Bool) (y : Unit) => [(48, .bool z)]) (fun (z : Bool) (y : Unit) => [⟨.pointer (some p3_10), 2, [[.int .i64 v4.st, .slice q71a v4.legs.length q71c]]⟩, ⟨.slice q71a v4.legs.length q71c, 5, v4.legs.map encLeg⟩, ⟨.pointer (some p4_11), 2, [[.int .i64 v5.den, .slice q81a v5.nums.length q81c]]⟩, ⟨.slice q81a v5.nums.length q81c, 3, v5.nums.map encWay⟩, ⟨.pointer (some p6_17), 3, [[.int .i64 v13.e, .int .i64 v13.n, .int .i64 v13.u]]⟩]) (fun _ _ => True) h ?_ ?_
    · intro t27 h25
      refine kwp_region ?_
      refine kd (v_ldB Tryd.isAgg37 Tryd.sizeOf37) ?_
      refine kd (v_ldB Tryd.isAgg37 Tryd.sizeOf37) ?_
      refine kd (v_nea eg_37 he_37 hp_37 (eqf_37 _ _ _ _ _ _)) ?_
      refine kd (v_mv) ?_
      refine kops_split 44 rfl (fun hb28 => ?_) (fun hb28 => ?_)
      ·
        replace h25 := e_t h25 hb28
        refine kskip hb28 ?_
        refine kskip hb28 ?_
        refine kskip hb28 ?_
        refine kd (v_pt hb28) ?_
        refine kops_nil ?_
        refine kn_then ?_
        obtain rfl := e_some h25
        exact ⟨(), hd_mk trivial⟩
      ·
        replace h25 := e_f h25 hb28
        refine kgd hb28 (v_mv) ?_
        refine kgd hb28 (v_mv) ?_
        refine kgd hb28 (v_neb Tryd.underlying4) ?_
        refine kd (v_pf hb28) ?_
        refine kops_nil ?_
        refine kn_then ?_
        obtain rfl := e_some h25
        exact ⟨(), hd_mk trivial⟩
    · intro x24 y30 _ h31
      refine kn_then ?_
      refine kwp_cond rfl (fun hc32 => ?_) (fun hc32 => ?_)
      ·
        replace h31 := e_t h31 hc32
        refine kwp_seq ?_
        refine kwp_region ?_
        refine kd (v_as) ?_
        refine kops_nil ?_
        refine kn_then ?_
        refine kwp_ret ?_
        refine kr_then ?_
        obtain rfl := e_some h31
        refine r1 [] ?_
        exact ⟨rfl, rfl⟩
      ·
        replace h31 := e_f h31 hc32
        refine kwp_skip ?_
        refine kn_then ?_
        refine kwp_seq ?_
        refine kwp_seq ?_
        refine kwp_region ?_
        refine kd (v_mv) ?_
        refine kd (v_not) ?_
        refine kops_nil ?_
        refine kn_then ?_
        refine kwp_cond rfl (fun hc33 => ?_) (fun hc33 => ?_)
        ·
          replace h31 := e_t h31 hc33
          refine kwp_seq ?_
          refine kwp_region ?_
          refine kd (v_ldB Tryd.isAgg37 Tryd.sizeOf37) ?_
          refine kd (v_bd [] [.int .i64 0, .int .i64 0, .int .i64 0] Tryd.zeroValue37 Tryd.runUnderlying37 pl_37) ?_
          refine kd (v_eqa eg_37 he_37 hp_37 (eqf_37 _ _ _ _ _ _)) ?_
          refine kd (v_mv) ?_
          refine kops_split 54 rfl (fun hb34 => ?_) (fun hb34 => ?_)
          ·
            replace h31 := e_t h31 hb34
            obtain ⟨v36, hv35, h31⟩ := e_bind h31
            refine kgk hb34 (n_call Tryd.call19 (w_laws_alive hv35) ?_)
            rintro _ _ ⟨rfl, rfl⟩
            refine kd (v_pt hb34) ?_
            refine kd (v_as) ?_
            refine kops_nil ?_
            refine kn_then ?_
            refine kwp_ret ?_
            refine kr_then ?_
            obtain rfl := e_some h31
            refine r1 [] ?_
            exact ⟨rfl, rfl⟩
          ·
            replace h31 := e_f h31 hb34
            refine kskip hb34 ?_
            refine kd (v_pf hb34) ?_
            refine kd (v_as) ?_
            refine kops_nil ?_
            refine kn_then ?_
            refine kwp_ret ?_
            refine kr_then ?_
            obtain rfl := e_some h31
            refine r1 [] ?_
            exact ⟨rfl, rfl⟩
        ·
          replace h31 := e_f h31 hc33
          refine kwp_skip ?_
          refine kn_then ?_
          refine kwp_seq ?_
          refine kwp_region ?_
          refine kd (v_ldB Tryd.isAgg25 Tryd.sizeOf25) ?_
          refine kd (v_mv) ?_
          obtain ⟨⟨v39, v40⟩, hv38, h31⟩ := e_bind h31
          refine kk (n_call Tryd.call55 (w_impl_LoopSteps q71a v4.legs.length q71c hv38) ?_)
          rintro _ _ ⟨q41a, q41c, rfl, rfl⟩
          refine kd (v_mv) ?_
          refine kd (v_ex) ?_
          refine kd (v_ex) ?_
          refine kd (v_as) ?_
          refine kd (v_as) ?_
          refine kops_nil ?_
          refine kn_then ?_
          refine kwp_seq ?_
          refine kwp_region ?_
          refine kd (v_bd [] [.int .i64 0, .int .i64 0, .int .i64 0] Tryd.zeroValue37 Tryd.runUnderlying37 pl_37) ?_
          refine kk (n_alloc (e := [.int .i64 0, .int .i64 0, .int .i64 0]) 3 Tryd.zeroValue37 (fun p12_43 => ?_))
          refine kk (s_B (e' := [.int .i64 0, .int .i64 0, .int .i64 0]) Tryd.sizeOf37 ?_)
          refine kops_nil ?_
          refine kn_then ?_
          refine kwp_seq ?_
          refine kwp_seq ?_
          refine kwp_region ?_
          refine kd (v_as) ?_
          refine kops_nil ?_
          refine kn_then ?_
          refine kwp_cutE (inv := [(3, .pointer (some p3_10)), (4, .pointer (some p4_11)), (5, .int .i64 v6), (11, .bool v40), (12, .pointer (some p12_43))]) (fun (z : Int × Int × Int) (y : Unit) => []) (fun (z : Int × Int × Int) (y : Unit) => [⟨.pointer (some p12_43), 3, [[.int .i64 z.1, .int .i64 z.2.1, .int .i64 z.2.2]]⟩, ⟨.pointer (some p3_10), 2, [[.int .i64 v4.st, .slice q71a v4.legs.length q71c]]⟩, ⟨.slice q71a v4.legs.length q71c, 5, v4.legs.map encLeg⟩, ⟨.pointer (some p4_11), 2, [[.int .i64 v5.den, .slice q81a v5.nums.length q81c]]⟩, ⟨.slice q81a v5.nums.length q81c, 3, v5.nums.map encWay⟩]) (fun _ _ => True) h31 ?_ ?_
          · intro t49 h47
            refine kwp_block ?_
            refine kwp_loopE (inv := [(3, .pointer (some p3_10)), (4, .pointer (some p4_11)), (5, .int .i64 v6), (10, .slice q41a v39.length q41c), (11, .bool v40), (12, .pointer (some p12_43))]) (fun (z : Int × Int × Int × Int) (y : Unit) => [(13, .int .i64 z.1)]) (fun (z : Int × Int × Int × Int) (y : Unit) => [⟨.pointer (some p12_43), 3, [[.int .i64 z.2.1, .int .i64 z.2.2.1, .int .i64 z.2.2.2]]⟩, ⟨.pointer (some p3_10), 2, [[.int .i64 v4.st, .slice q71a v4.legs.length q71c]]⟩, ⟨.slice q71a v4.legs.length q71c, 5, v4.legs.map encLeg⟩, ⟨.pointer (some p4_11), 2, [[.int .i64 v5.den, .slice q81a v5.nums.length q81c]]⟩, ⟨.slice q81a v5.nums.length q81c, 3, v5.nums.map encWay⟩, ⟨.slice q41a v39.length q41c, 2, v39.map encStep⟩]) (fun _ _ => True) h47 ⟨(), hd_mk trivial⟩ ?_
            intro z56 y57 b54 _ h55
            obtain ⟨k50, e51, n52, u53⟩ := z56
            unfold p_laws_FnFixMiss_L0 at h55
            refine kwp_seq ?_
            refine kwp_seq ?_
            refine kwp_region ?_
            refine kd (v_mv) ?_
            refine kd (v_mv) ?_
            refine kd (v_len Tryd.runUnderlying64) ?_
            refine kd (v_cmp) ?_
            refine kops_nil ?_
            refine kn_then ?_
            refine kwp_cond rfl (fun hc58 => ?_) (fun hc58 => ?_)
            ·
              replace h55 := e_t h55 hc58
              refine kwp_skip ?_
              refine kn_then ?_
              refine kwp_seq ?_
              refine kwp_block ?_
              refine kwp_seq ?_
              obtain ⟨j59, ej59, nj59, h55⟩ := e_idx h55
              obtain ⟨⟨v61, v62⟩, hv60, h55⟩ := e_bind h55
              refine kwp_cutS (inv := [(3, .pointer (some p3_10)), (4, .pointer (some p4_11)), (5, .int .i64 v6), (10, .slice q41a v39.length q41c), (11, .bool v40), (12, .pointer (some p12_43)), (13, .int .i64 k50)]) (fun (y : Addr) => [(14, .pointer (some y))]) (fun (y : Addr) => [⟨.pointer (some p3_10), 2, [[.int .i64 v4.st, .slice q71a v4.legs.length q71c]]⟩, ⟨.slice q71a v4.legs.length q71c, 5, v4.legs.map encLeg⟩, ⟨.pointer (some p4_11), 2, [[.int .i64 v5.den, .slice q81a v5.nums.length q81c]]⟩, ⟨.slice q81a v5.nums.length q81c, 3, v5.nums.map encWay⟩, ⟨.slice q41a v39.length q41c, 2, v39.map encStep⟩, ⟨.pointer (some p12_43), 3, [[.int .i64 e51, .int .i64 n52, .int .i64 u53]]⟩, ⟨.pointer (some y), 3, [[.int .i64 v61.e, .int .i64 v61.n, .int .i64 v61.u]]⟩]) (fun (y : Addr) => True) ?_ ?_
              ·
                refine kwp_tree (.quiet 0 (.quiet 1 (.quiet 2 (.quiet 3 (.quiet 4 (.quiet 5 (.quiet 6 (.two 7 (.quiet 8 (.quiet 9 (.quiet 10 (.one 11 (.one 12 (.quiet 13 .stop)))))) 11 (.one 7 (.quiet 8 (.quiet 9 (.quiet 10 (.one 12 (.quiet 13 .stop)))))))))))))) [] [⟨.pointer (some p3_10), 2, [[.int .i64 v4.st, .slice q71a v4.legs.length q71c]]⟩, ⟨.pointer (some p4_11), 2, [[.int .i64 v5.den, .slice q81a v5.nums.length q81c]]⟩, ⟨.slice q41a v39.length q41c, 2, v39.map encStep⟩] drawMixed (by kernel_rfl) nopan (by (repeat (first | exact Sub.refl _ | exact Sub.nil _ | refine Sub.chunk (by repeat (first | exact Pick.here | apply Pick.there | apply Pick.seg)) (by rfl) ?_ | refine Sub.seg (by repeat (first | exact PickSeg.here | exact PickSeg.all | apply PickSeg.there | apply PickSeg.seg)) ?_ | exact Sub.seg0 (by repeat (first | exact PickSeg.here | exact PickSeg.all | apply PickSeg.there | apply PickSeg.seg)) | apply Sub.assoc))) ?_
                refine kt_d rfl rfl rfl (v_ldB Tryd.isAgg25 Tryd.sizeOf25) ?_
                refine kt_d rfl rfl rfl (v_ldB Tryd.isAgg31 Tryd.sizeOf31) ?_
                refine kt_d rfl rfl rfl (v_mv) ?_
                refine kt_d rfl rfl rfl (v_mv) ?_
                refine kt_d rfl rfl rfl (v_ia ej59 nj59 Tryd.runUnderlying64 Tryd.sizeOf68) ?_
                refine kt_d rfl rfl rfl (v_fa nj59 fa_68_0) ?_
                refine kt_d rfl rfl rfl (v_ldf nj59 Tryd.isAgg3) ?_
                refine kt_two ?_ ?_
                ·
                  refine kl_k rfl rfl (n_call Tryd.call20 (w_impl_FixMiss q71a v4.legs.length q71c q81a v5.nums.length q81c hv60) ?_)
                  rintro _ _ ⟨rfl, rfl⟩
                  refine ⟨.inl (by (repeat (first | exact Sub.refl _ | exact Sub.nil _ | refine Sub.chunk (by repeat (first | exact Pick.here | apply Pick.there | apply Pick.seg)) (by rfl) ?_ | refine Sub.seg (by repeat (first | exact PickSeg.here | exact PickSeg.all | apply PickSeg.there | apply PickSeg.seg)) ?_ | exact Sub.seg0 (by repeat (first | exact PickSeg.here | exact PickSeg.all | apply PickSeg.there | apply PickSeg.seg)) | apply Sub.assoc))), ?_⟩
                  refine kt_d rfl rfl rfl (v_mv) ?_
                  refine kt_d rfl rfl rfl (v_ex) ?_
                  refine kt_d rfl rfl rfl (v_ex) ?_
                  refine kt_one ?_
                  refine kl_k rfl rfl (n_alloc (e := [.int .i64 0, .int .i64 0, .int .i64 0]) 3 Tryd.zeroValue37 (fun p14_65 => ?_))
                  refine ⟨.inl (by (repeat (first | exact Sub.refl _ | exact Sub.nil _ | refine Sub.chunk (by repeat (first | exact Pick.here | apply Pick.there | apply Pick.seg)) (by rfl) ?_ | refine Sub.seg (by repeat (first | exact PickSeg.here | exact PickSeg.all | apply PickSeg.there | apply PickSeg.seg)) ?_ | exact Sub.seg0 (by repeat (first | exact PickSeg.here | exact PickSeg.all | apply PickSeg.there | apply PickSeg.seg)) | apply Sub.assoc))), ?_⟩
                  refine kt_one ?_
                  refine kl_k rfl rfl (s_B (e' := [.int .i64 v61.e, .int .i64 v61.n, .int .i64 v61.u]) Tryd.sizeOf37 ?_)
                  refine ⟨.inl (by (repeat (first | exact Sub.refl _ | exact Sub.nil _ | refine Sub.chunk (by repeat (first | exact Pick.here | apply Pick.there | apply Pick.seg)) (by rfl) ?_ | refine Sub.seg (by repeat (first | exact PickSeg.here | exact PickSeg.all | apply PickSeg.there | apply PickSeg.seg)) ?_ | exact Sub.seg0 (by repeat (first | exact PickSeg.here | exact PickSeg.all | apply PickSeg.there | apply PickSeg.seg)) | apply Sub.assoc))), ?_⟩
                  refine kt_d rfl rfl rfl (v_as) ?_
                  refine kt_nil ?_
                  refine kn_then ?_
                  exact ⟨p14_65, hd_mk trivial⟩
                ·
                  refine kl_k rfl rfl (n_alloc (e := [.int .i64 0, .int .i64 0, .int .i64 0]) 3 Tryd.zeroValue37 (fun p14_65 => ?_))
                  refine ⟨.inl (by (repeat (first | exact Sub.refl _ | exact Sub.nil _ | refine Sub.chunk (by repeat (first | exact Pick.here | apply Pick.there | apply Pick.seg)) (by rfl) ?_ | refine Sub.seg (by repeat (first | exact PickSeg.here | exact PickSeg.all | apply PickSeg.there | apply PickSeg.seg)) ?_ | exact Sub.seg0 (by repeat (first | exact PickSeg.here | exact PickSeg.all | apply PickSeg.there | apply PickSeg.seg)) | apply Sub.assoc))), ?_⟩
                  refine kt_one ?_
                  refine kl_k rfl rfl (n_call Tryd.call20 (w_impl_FixMiss q71a v4.legs.length q71c q81a v5.nums.length q81c hv60) ?_)
                  rintro _ _ ⟨rfl, rfl⟩
                  refine ⟨.inl (by (repeat (first | exact Sub.refl _ | exact Sub.nil _ | refine Sub.chunk (by repeat (first | exact Pick.here | apply Pick.there | apply Pick.seg)) (by rfl) ?_ | refine Sub.seg (by repeat (first | exact PickSeg.here | exact PickSeg.all | apply PickSeg.there | apply PickSeg.seg)) ?_ | exact Sub.seg0 (by repeat (first | exact PickSeg.here | exact PickSeg.all | apply PickSeg.there | apply PickSeg.seg)) | apply Sub.assoc))), ?_⟩
                  refine kt_d rfl rfl rfl (v_mv) ?_
                  refine kt_d rfl rfl rfl (v_ex) ?_
                  refine kt_d rfl rfl rfl (v_ex) ?_
                  refine kt_one ?_
                  refine kl_k rfl rfl (s_B (e' := [.int .i64 v61.e, .int .i64 v61.n, .int .i64 v61.u]) Tryd.sizeOf37 ?_)
                  refine ⟨.inl (by (repeat (first | exact Sub.refl _ | exact Sub.nil _ | refine Sub.chunk (by repeat (first | exact Pick.here | apply Pick.there | apply Pick.seg)) (by rfl) ?_ | refine Sub.seg (by repeat (first | exact PickSeg.here | exact PickSeg.all | apply PickSeg.there | apply PickSeg.seg)) ?_ | exact Sub.seg0 (by repeat (first | exact PickSeg.here | exact PickSeg.all | apply PickSeg.there | apply PickSeg.seg)) | apply Sub.assoc))), ?_⟩
                  refine kt_d rfl rfl rfl (v_as) ?_
                  refine kt_nil ?_
                  refine kn_then ?_
                  exact ⟨p14_65, hd_mk trivial⟩
              · intro p14_65 _
                refine kn_then ?_
                refine kwp_seq ?_
                refine kwp_seq ?_
                refine kwp_region ?_
                refine kd (v_mv) ?_
                refine kd (v_mv) ?_
                refine kd (v_ia ej59 nj59 Tryd.runUnderlying64 Tryd.sizeOf68) ?_
                refine kd (v_fa nj59 fa_68_1) ?_
                refine kd (v_ldf nj59 Tryd.isAgg4) ?_
                refine kops_nil ?_
                refine kn_then ?_
                refine kwp_cond rfl (fun hc67 => ?_) (fun hc67 => ?_)
                ·
                  replace h55 := e_t h55 hc67
                  refine kwp_region ?_
                  refine kd (v_ldB Tryd.isAgg37 Tryd.sizeOf37) ?_
                  obtain ⟨v69, hv68, h55⟩ := e_bind h55
                  refine kk (n_call Tryd.call32 (w_impl_WayTimes hv68) ?_)
                  rintro _ _ ⟨rfl, rfl⟩
                  refine kk (s_B (e' := [.int .i64 v69.e, .int .i64 v69.n, .int .i64 v69.u]) Tryd.sizeOf37 ?_)
                  refine kops_nil ?_
                  refine kn_then ?_
                  refine kwp_region ?_
                  refine kd (v_ldB Tryd.isAgg37 Tryd.sizeOf37) ?_
                  refine kd (v_ldB Tryd.isAgg37 Tryd.sizeOf37) ?_
                  obtain ⟨v72, hv71, h55⟩ := e_bind h55
                  refine kk (n_call Tryd.call31 (w_impl_WayAdd hv71) ?_)
                  rintro _ _ ⟨rfl, rfl⟩
                  refine kk (s_B (e' := [.int .i64 v72.e, .int .i64 v72.n, .int .i64 v72.u]) Tryd.sizeOf37 ?_)
                  refine kops_nil ?_
                  refine kn_block ?_
                  refine kn_then ?_
                  refine kwp_region ?_
                  refine kd (v_mv) ?_
                  refine kd (v_add) ?_
                  refine kd (v_as) ?_
                  refine kops_nil ?_
                  refine kn_then ?_
                  obtain rfl := e_some h55
                  exact ⟨_, (), rfl, hd_mk trivial⟩
                ·
                  replace h55 := e_f h55 hc67
                  refine kwp_skip ?_
                  refine kn_then ?_
                  refine kwp_region ?_
                  refine kd (v_ldB Tryd.isAgg37 Tryd.sizeOf37) ?_
                  refine kd (v_ldB Tryd.isAgg37 Tryd.sizeOf37) ?_
                  obtain ⟨v75, hv74, h55⟩ := e_bind h55
                  refine kk (n_call Tryd.call31 (w_impl_WayAdd hv74) ?_)
                  rintro _ _ ⟨rfl, rfl⟩
                  refine kk (s_B (e' := [.int .i64 v75.e, .int .i64 v75.n, .int .i64 v75.u]) Tryd.sizeOf37 ?_)
                  refine kops_nil ?_
                  refine kn_block ?_
                  refine kn_then ?_
                  refine kwp_region ?_
                  refine kd (v_mv) ?_
                  refine kd (v_add) ?_
                  refine kd (v_as) ?_
                  refine kops_nil ?_
                  refine kn_then ?_
                  obtain rfl := e_some h55
                  exact ⟨_, (), rfl, hd_mk trivial⟩
            ·
              replace h55 := e_f h55 hc58
              refine kwp_exit ?_
              refine ke_then ?_
              obtain rfl := e_some h55
              refine k_out ?_ rfl
              rintro rfl
              refine ke_block ?_
              exact ⟨(), hd_mk trivial⟩
          · intro z77 y78 _ h79
            obtain ⟨e44, n45, u46⟩ := z77
            refine kn_then ?_
            refine kwp_seq ?_
            refine kwp_region ?_
            refine kd (v_ldB Tryd.isAgg25 Tryd.sizeOf25) ?_
            refine kd (v_mv) ?_
            obtain ⟨⟨v81, v82⟩, hv80, h79⟩ := e_bind h79
            refine kk (n_call Tryd.call56 (w_impl_Misclosure q71a v4.legs.length q71c hv80) ?_)
            rintro _ _ ⟨rfl, rfl⟩
            refine kd (v_mv) ?_
            refine kd (v_ex) ?_
            refine kd (v_ex) ?_
            refine kk (n_alloc (e := [.int .i64 0, .int .i64 0, .int .i64 0]) 3 Tryd.zeroValue37 (fun p16_85 => ?_))
            refine kk (s_B (e' := [.int .i64 v81.e, .int .i64 v81.n, .int .i64 v81.u]) Tryd.sizeOf37 ?_)
            refine kd (v_as) ?_
            refine kops_nil ?_
            refine kn_then ?_
            refine kwp_seq ?_
            refine sp (!v40) (fun hb86 => ?_) (fun hb86 => ?_)
            ·
              replace h79 := e_t h79 hb86
              refine kwp_tree (.quiet 0 (.quiet 1 (.quiet 2 (.quiet 3 (.quiet 4 (.quiet 5 (.quiet 6 (.one 7 (.quiet 8 (.quiet 9 (.quiet 10 .stop))))))))))) [] [] drawMixed (by kernel_rfl) nopan (by (repeat (first | exact Sub.refl _ | exact Sub.nil _ | refine Sub.chunk (by repeat (first | exact Pick.here | apply Pick.there | apply Pick.seg)) (by rfl) ?_ | refine Sub.seg (by repeat (first | exact PickSeg.here | exact PickSeg.all | apply PickSeg.there | apply PickSeg.seg)) ?_ | exact Sub.seg0 (by repeat (first | exact PickSeg.here | exact PickSeg.all | apply PickSeg.there | apply PickSeg.seg)) | apply Sub.assoc))) ?_
              refine kt_d rfl rfl rfl (v_mv) ?_
              refine kt_d rfl rfl rfl (v_not) ?_
              refine kt_d rfl rfl rfl (v_mv) ?_
              refine kt_skip rfl rfl rfl rfl hb86 ?_
              refine kt_skip rfl rfl rfl rfl hb86 ?_
              refine kt_skip rfl rfl rfl rfl hb86 ?_
              refine kt_skip rfl rfl rfl rfl hb86 ?_
              refine kt_one ?_
              refine kl_skip rfl rfl rfl rfl hb86 (by (repeat (first | exact Sub.refl _ | exact Sub.nil _ | refine Sub.chunk (by repeat (first | exact Pick.here | apply Pick.there | apply Pick.seg)) (by rfl) ?_ | refine Sub.seg (by repeat (first | exact PickSeg.here | exact PickSeg.all | apply PickSeg.there | apply PickSeg.seg)) ?_ | exact Sub.seg0 (by repeat (first | exact PickSeg.here | exact PickSeg.all | apply PickSeg.there | apply PickSeg.seg)) | apply Sub.assoc))) ?_
              refine kt_skip rfl rfl rfl rfl hb86 ?_
              refine kt_d rfl rfl rfl (v_pt hb86) ?_
              refine kt_d rfl rfl rfl (v_as) ?_
              refine kt_nil ?_
              refine kn_then ?_
              refine kwp_ret ?_
              obtain rfl := e_some h79
              refine r1 [] ?_
              exact ⟨rfl, rfl⟩
            ·
              replace h79 := e_f h79 hb86
              obtain ⟨v88, hv87, h79⟩ := e_bind h79
              refine kwp_tree (.quiet 0 (.quiet 1 (.quiet 2 (.quiet 3 (.quiet 4 (.quiet 5 (.quiet 6 (.one 7 (.quiet 8 (.quiet 9 (.quiet 10 .stop))))))))))) [] [⟨.pointer (some p4_11), 2, [[.int .i64 v5.den, .slice q81a v5.nums.length q81c]]⟩, ⟨.pointer (some p12_43), 3, [[.int .i64 e44, .int .i64 n45, .int .i64 u46]]⟩, ⟨.pointer (some p16_85), 3, [[.int .i64 v81.e, .int .i64 v81.n, .int .i64 v81.u]]⟩] drawMixed (by kernel_rfl) nopan (by (repeat (first | exact Sub.refl _ | exact Sub.nil _ | refine Sub.chunk (by repeat (first | exact Pick.here | apply Pick.there | apply Pick.seg)) (by rfl) ?_ | refine Sub.seg (by repeat (first | exact PickSeg.here | exact PickSeg.all | apply PickSeg.there | apply PickSeg.seg)) ?_ | exact Sub.seg0 (by repeat (first | exact PickSeg.here | exact PickSeg.all | apply PickSeg.there | apply PickSeg.seg)) | apply Sub.assoc))) ?_
              refine kt_d rfl rfl rfl (v_mv) ?_
              refine kt_d rfl rfl rfl (v_not) ?_
              refine kt_d rfl rfl rfl (v_mv) ?_
              refine kt_gv rfl rfl rfl rfl hb86 (v_ldB Tryd.isAgg37 Tryd.sizeOf37) ?_
              refine kt_gv rfl rfl rfl rfl hb86 (v_ldB Tryd.isAgg37 Tryd.sizeOf37) ?_
              refine kt_gv rfl rfl rfl rfl hb86 (v_fb fa_31_0) ?_
              refine kt_gv rfl rfl rfl rfl hb86 (v_ldb Tryd.isAgg3) ?_
              refine kt_one ?_
              refine kl_gk rfl rfl rfl rfl hb86 (n_call Tryd.call32 (w_impl_WayTimes hv87) ?_)
              rintro _ _ ⟨rfl, rfl⟩
              refine ⟨.inl (by (repeat (first | exact Sub.refl _ | exact Sub.nil _ | refine Sub.chunk (by repeat (first | exact Pick.here | apply Pick.there | apply Pick.seg)) (by rfl) ?_ | refine Sub.seg (by repeat (first | exact PickSeg.here | exact PickSeg.all | apply PickSeg.there | apply PickSeg.seg)) ?_ | exact Sub.seg0 (by repeat (first | exact PickSeg.here | exact PickSeg.all | apply PickSeg.there | apply PickSeg.seg)) | apply Sub.assoc))), ?_⟩
              refine kt_gv rfl rfl rfl rfl hb86 (v_eqa eg_37 he_37 hp_37 (eqf_37 _ _ _ _ _ _)) ?_
              refine kt_d rfl rfl rfl (v_pf hb86) ?_
              refine kt_d rfl rfl rfl (v_as) ?_
              refine kt_nil ?_
              refine kn_then ?_
              refine kwp_ret ?_
              obtain rfl := e_some h79
              refine r1 [] ?_
              exact ⟨rfl, rfl⟩

end Go.Proofs.YtnibfmofkamjoaaDoor
