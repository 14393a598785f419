/- What the plain programs return, the functions of the program return; no condition. -/
import Derived.Test.YtnibfmofkamjoaaDoorZQ
import Derived.Test.YtnibfmofkamjoaaDoorZFa
import Derived.Test.YtnibfmofkamjoaaDoorZVbg
import Derived.Test.YtnibfmofkamjoaaDoorZVbj
namespace Go.Proofs.YtnibfmofkamjoaaDoor
open Go
set_option linter.unusedVariables false
set_option linter.unusedSimpArgs false

set_option maxRecDepth 20000 in
set_option maxHeartbeats 2000000 in
theorem w_spec_l20Fix (r0p : Addr) (r00a : Option Addr) (r00n : Nat) (r00c : Nat) {r0 : Rd} {r : Survey × Fix × Int} (h : p_spec_l20Fix r0 = some r) :
    Triple Tryd.prog 93 [.pointer (some r0p)] [⟨.slice r00a r00n r00c, 1, r0.b.map encB⟩] [⟨.pointer (some r0p), 2, [[.slice r00a r00n r00c, .int .i64 r0.p]]⟩] (fun v ch => ∃ (w01a : Option Addr) (w01c : Nat) (w11a : Option Addr) (w11c : Nat), v = .tuple #[.agg #[.int .i64 r.1.st, .slice w01a r.1.legs.length w01c], .agg #[.int .i64 r.2.1.den, .slice w11a r.2.1.nums.length w11c]] ∧ ch = [⟨.slice w01a r.1.legs.length w01c, 5, r.1.legs.map encLeg⟩, ⟨.slice w11a r.2.1.nums.length w11c, 3, r.2.1.nums.map encWay⟩, ⟨.pointer (some r0p), 2, [[.slice r00a r00n r00c, .int .i64 r.2.2]]⟩]) := by
  refine triple_start 94 Tryd.func93 Tryd.ntmps93 rfl rfl (fun w0 => ?_)
  refine k_len (c := r00c) (fun hl1 => ?_)
  subst hl1
  unfold p_spec_l20Fix at h
  refine kwp_seq ?_
  refine kwp_region ?_
  refine kops_nilchunk 5 (by decide) ?_
  refine kk (n_alloc (e := [.int .i64 0, .slice none 0 0]) 2 Tryd.zeroValue25 (fun p2_2 => ?_))
  refine kops_nilchunk 3 (by decide) ?_
  refine kk (n_alloc (e := [.int .i64 0, .slice none 0 0]) 2 Tryd.zeroValue31 (fun p3_3 => ?_))
  refine kops_nil ?_
  refine kn_then ?_
  refine kwp_seq ?_
  refine kwp_region ?_
  refine kd (v_mv) ?_
  obtain ⟨⟨v5, v6⟩, hv4, h⟩ := e_bind h
  refine kk (n_call Tryd.call69 (w_spec_l20Linked r0p r00a r0.b.length r00c hv4) ?_)
  rintro _ _ ⟨q71a, q71c, rfl, rfl⟩
  refine kops_nilchunk 5 (by decide) ?_
  refine kk (n_alloc (e := [.int .i64 0, .slice none 0 0]) 2 Tryd.zeroValue25 (fun p4_8 => ?_))
  refine kk (s_B (e' := [.int .i64 v5.st, .slice q71a v5.legs.length q71c]) Tryd.sizeOf25 ?_)
  refine kops_nil ?_
  refine kn_then ?_
  refine kwp_seq ?_
  refine kwp_region ?_
  refine kd (v_ldB Tryd.isAgg25 Tryd.sizeOf25) ?_
  obtain ⟨⟨v10, v11⟩, hv9, h⟩ := e_bind h
  refine kk (n_call Tryd.call28 (w_spec_Adjust q71a v5.legs.length q71c hv9) ?_)
  rintro _ _ ⟨q121a, q121c, rfl, rfl⟩
  refine kd (v_mv) ?_
  refine kd (v_ex) ?_
  refine kd (v_ex) ?_
  refine kops_nilchunk 3 (by decide) ?_
  refine kk (n_alloc (e := [.int .i64 0, .slice none 0 0]) 2 Tryd.zeroValue31 (fun p5_14 => ?_))
  refine kk (s_B (e' := [.int .i64 v10.den, .slice q121a v10.nums.length q121c]) Tryd.sizeOf31 ?_)
  refine kd (v_as) ?_
  refine kops_nil ?_
  refine kn_then ?_
  refine kwp_seq ?_
  refine kwp_seq ?_
  refine kwp_cutE (inv := [(0, .pointer (some r0p)), (2, .pointer (some p2_2)), (3, .pointer (some p3_3)), (4, .pointer (some p4_8)), (5, .pointer (some p5_14))]) (fun (z : Bool × Int) (y : Unit) => [(24, .bool z.1)]) (fun (z : Bool × Int) (y : Unit) => [⟨.pointer (some r0p), 2, [[.slice r00a r0.b.length r00c, .int .i64 z.2]]⟩, ⟨.pointer (some p2_2), 2, [[.int .i64 0, .slice none 0 0]]⟩, ⟨.slice none 0 0, 5, ([] : List Leg).map encLeg⟩, ⟨.pointer (some p3_3), 2, [[.int .i64 0, .slice none 0 0]]⟩, ⟨.slice none 0 0, 3, ([] : List Way).map encWay⟩, ⟨.pointer (some p4_8), 2, [[.int .i64 v5.st, .slice q71a v5.legs.length q71c]]⟩, ⟨.slice q71a v5.legs.length q71c, 5, v5.legs.map encLeg⟩, ⟨.pointer (some p5_14), 2, [[.int .i64 v10.den, .slice q121a v10.nums.length q121c]]⟩, ⟨.slice q121a v10.nums.length q121c, 3, v10.nums.map encWay⟩]) (fun _ _ => True) h ?_ ?_
  · intro t19 h17
    refine kwp_region ?_
    refine kd (v_mv) ?_
    refine kd (v_not) ?_
    refine kd (v_mv) ?_
    refine kops_split 20 rfl (fun hb20 => ?_) (fun hb20 => ?_)
    ·
      replace h17 := e_t h17 hb20
      refine kskip hb20 ?_
      refine kskip hb20 ?_
      refine kskip hb20 ?_
      refine kd (v_pt hb20) ?_
      refine kops_nil ?_
      refine kn_then ?_
      obtain rfl := e_some h17
      exact ⟨(), hd_mk trivial⟩
    ·
      replace h17 := e_f h17 hb20
      refine kgd hb20 (v_mv) ?_
      obtain ⟨⟨v22, v23⟩, hv21, h17⟩ := e_bind h17
      refine kgk hb20 (n_call Tryd.call70 (w_spec_l20Rd_pick r0p r00a r0.b.length r00c hv21) ?_)
      rintro _ _ ⟨rfl, rfl⟩
      refine kgd hb20 (v_cmp) ?_
      refine kd (v_pf hb20) ?_
      refine kops_nil ?_
      refine kn_then ?_
      obtain rfl := e_some h17
      exact ⟨(), hd_mk trivial⟩
  · intro z25 y26 _ h27
    obtain ⟨x15, p16⟩ := z25
    refine kn_then ?_
    refine kwp_cutE (inv := [(0, .pointer (some r0p)), (2, .pointer (some p2_2)), (3, .pointer (some p3_3)), (4, .pointer (some p4_8)), (5, .pointer (some p5_14))]) (fun (z : Int × Int × List Way) (y : Option Addr × Nat × Nat) => []) (fun (z : Int × Int × List Way) (y : Option Addr × Nat × Nat) => [⟨.pointer (some r0p), 2, [[.slice r00a r0.b.length r00c, .int .i64 z.1]]⟩, ⟨.pointer (some p5_14), 2, [[.int .i64 z.2.1, .slice y.1 y.2.1 y.2.2]]⟩, ⟨.slice y.1 y.2.1 y.2.2, 3, z.2.2.map encWay⟩, ⟨.pointer (some p2_2), 2, [[.int .i64 0, .slice none 0 0]]⟩, ⟨.slice none 0 0, 5, ([] : List Leg).map encLeg⟩, ⟨.pointer (some p3_3), 2, [[.int .i64 0, .slice none 0 0]]⟩, ⟨.slice none 0 0, 3, ([] : List Way).map encWay⟩, ⟨.pointer (some p4_8), 2, [[.int .i64 v5.st, .slice q71a v5.legs.length q71c]]⟩, ⟨.slice q71a v5.legs.length q71c, 5, v5.legs.map encLeg⟩]) (fun _ _ => True) h27 ?_ ?_
    · intro t33 h31
      refine kwp_cond rfl (fun hc34 => ?_) (fun hc34 => ?_)
      ·
        replace h31 := e_t h31 hc34
        refine kwp_seq ?_
        refine kwp_region ?_
        refine kd (v_mv) ?_
        obtain ⟨⟨v36, v37⟩, hv35, h31⟩ := e_bind h31
        refine kk (n_call Tryd.call70 (w_spec_l20Rd_pick r0p r00a r0.b.length r00c hv35) ?_)
        rintro _ _ ⟨rfl, rfl⟩
        refine kd (v_add) ?_
        refine kops_nilchunk 3 (by decide) ?_
        refine kd (v_bd [(0, _)] [_, .slice none 0 0] Tryd.zeroValue31 Tryd.runUnderlying31 pl_31) ?_
        refine kk (s_B (e' := [.int .i64 (w64 (1 + v36)), .slice none 0 0]) Tryd.sizeOf31 ?_)
        refine kops_nil ?_
        refine kn_then ?_
        refine kwp_seq ?_
        refine kwp_region ?_
        refine kd (v_as) ?_
        refine kops_nil ?_
        refine kn_then ?_
        refine kwp_cutE (inv := [(0, .pointer (some r0p)), (2, .pointer (some p2_2)), (3, .pointer (some p3_3)), (4, .pointer (some p4_8)), (5, .pointer (some p5_14))]) (fun (z : List Way) (y : Option Addr × Nat × Nat) => []) (fun (z : List Way) (y : Option Addr × Nat × Nat) => [⟨.pointer (some p5_14), 2, [[.int .i64 (w64 (1 + v36)), .slice y.1 y.2.1 y.2.2]]⟩, ⟨.slice y.1 y.2.1 y.2.2, 3, z.map encWay⟩, ⟨.pointer (some r0p), 2, [[.slice r00a r0.b.length r00c, .int .i64 v37]]⟩, ⟨.pointer (some p2_2), 2, [[.int .i64 0, .slice none 0 0]]⟩, ⟨.slice none 0 0, 5, ([] : List Leg).map encLeg⟩, ⟨.pointer (some p3_3), 2, [[.int .i64 0, .slice none 0 0]]⟩, ⟨.slice none 0 0, 3, ([] : List Way).map encWay⟩, ⟨.pointer (some p4_8), 2, [[.int .i64 v5.st, .slice q71a v5.legs.length q71c]]⟩, ⟨.slice q71a v5.legs.length q71c, 5, v5.legs.map encLeg⟩]) (fun _ _ => True) h31 ?_ ?_
        · intro t42 h40
          refine kwp_block ?_
          refine kwp_loopE (inv := [(0, .pointer (some r0p)), (2, .pointer (some p2_2)), (3, .pointer (some p3_3)), (4, .pointer (some p4_8)), (5, .pointer (some p5_14))]) (fun (z : Int × List Way) (y : Option Addr × Nat × Nat) => [(7, .int .i64 z.1)]) (fun (z : Int × List Way) (y : Option Addr × Nat × Nat) => [⟨.pointer (some p5_14), 2, [[.int .i64 (w64 (1 + v36)), .slice y.1 y.2.1 y.2.2]]⟩, ⟨.slice y.1 y.2.1 y.2.2, 3, z.2.map encWay⟩, ⟨.pointer (some r0p), 2, [[.slice r00a r0.b.length r00c, .int .i64 v37]]⟩, ⟨.pointer (some p2_2), 2, [[.int .i64 0, .slice none 0 0]]⟩, ⟨.slice none 0 0, 5, ([] : List Leg).map encLeg⟩, ⟨.pointer (some p3_3), 2, [[.int .i64 0, .slice none 0 0]]⟩, ⟨.slice none 0 0, 3, ([] : List Way).map encWay⟩, ⟨.pointer (some p4_8), 2, [[.int .i64 v5.st, .slice q71a v5.legs.length q71c]]⟩, ⟨.slice q71a v5.legs.length q71c, 5, v5.legs.map encLeg⟩]) (fun _ _ => True) h40 ⟨(none, 0, 0), hd_mk trivial⟩ ?_
          intro z47 y48 b45 _ h46
          obtain ⟨k43, nums44⟩ := z47
          obtain ⟨nums44a, nums44n, nums44c⟩ := y48
          refine k_len (c := nums44c) (fun hl49 => ?_)
          subst hl49
          unfold p_spec_l20Fix_L0 at h46
          refine kwp_seq ?_
          refine kwp_seq ?_
          refine kwp_cutE (inv := [(0, .pointer (some r0p)), (2, .pointer (some p2_2)), (3, .pointer (some p3_3)), (4, .pointer (some p4_8)), (5, .pointer (some p5_14)), (7, .int .i64 k43)]) (fun (z : Bool) (y : Unit) => [(36, .bool z)]) (fun (z : Bool) (y : Unit) => [⟨.pointer (some r0p), 2, [[.slice r00a r0.b.length r00c, .int .i64 v37]]⟩, ⟨.pointer (some p2_2), 2, [[.int .i64 0, .slice none 0 0]]⟩, ⟨.slice none 0 0, 5, ([] : List Leg).map encLeg⟩, ⟨.pointer (some p3_3), 2, [[.int .i64 0, .slice none 0 0]]⟩, ⟨.slice none 0 0, 3, ([] : List Way).map encWay⟩, ⟨.pointer (some p4_8), 2, [[.int .i64 v5.st, .slice q71a v5.legs.length q71c]]⟩, ⟨.slice q71a v5.legs.length q71c, 5, v5.legs.map encLeg⟩, ⟨.pointer (some p5_14), 2, [[.int .i64 (w64 (1 + v36)), .slice nums44a nums44.length nums44c]]⟩, ⟨.slice nums44a (nums44.length) nums44c, 3, nums44.map encWay⟩]) (fun _ _ => True) h46 ?_ ?_
          · intro t53 h51
            refine kwp_region ?_
            refine kd (v_mv) ?_
            refine kd (v_fb fa_25_0) ?_
            refine kd (v_ldb Tryd.isAgg3) ?_
            refine kd (v_cmp) ?_
            refine kd (v_mv) ?_
            refine kops_split 33 rfl (fun hb54 => ?_) (fun hb54 => ?_)
            ·
              replace h51 := e_t h51 hb54
              refine kgd hb54 (v_mv) ?_
              refine kgd hb54 (v_cmp) ?_
              refine kd (v_pt hb54) ?_
              refine kops_nil ?_
              refine kn_then ?_
              obtain rfl := e_some h51
              exact ⟨(), hd_mk trivial⟩
            ·
              replace h51 := e_f h51 hb54
              refine kskip hb54 ?_
              refine kskip hb54 ?_
              refine kd (v_pf hb54) ?_
              refine kops_nil ?_
              refine kn_then ?_
              obtain rfl := e_some h51
              exact ⟨(), hd_mk trivial⟩
          · intro x50 y56 _ h57
            refine kn_then ?_
            refine kwp_cond rfl (fun hc58 => ?_) (fun hc58 => ?_)
            ·
              replace h57 := e_t h57 hc58
              refine kwp_skip ?_
              refine kn_then ?_
              refine kwp_seq ?_
              refine kwp_block ?_
              refine kwp_seq ?_
              refine kwp_region ?_
              refine kd (v_ldB Tryd.isAgg25 Tryd.sizeOf25) ?_
              refine kd (v_mv) ?_
              obtain ⟨⟨v60, v61⟩, hv59, h57⟩ := e_bind h57
              refine kk (n_call Tryd.call73 (w_spec_TreePlace q71a v5.legs.length q71c hv59) ?_)
              rintro _ _ ⟨rfl, rfl⟩
              refine kd (v_mv) ?_
              refine kd (v_ex) ?_
              refine kd (v_ex) ?_
              refine kk (n_alloc (e := [.int .i64 0, .int .i64 0, .int .i64 0]) 3 Tryd.zeroValue37 (fun p8_64 => ?_))
              refine kk (s_B (e' := [.int .i64 v60.e, .int .i64 v60.n, .int .i64 v60.u]) Tryd.sizeOf37 ?_)
              refine kd (v_as) ?_
              refine kops_nil ?_
              refine kn_then ?_
              obtain ⟨v66, hv65, h57⟩ := e_bind h57
              obtain ⟨hz69, h57⟩ := e_need h57
              refine kwp_tree (.quiet 0 (.quiet 1 (.quiet 2 (.quiet 3 (.quiet 4 (.one 5 (.one 6 (.one 7 (.quiet 8 (.one 9 .stop)))))))))) [9] [⟨.pointer (some p5_14), 2, [[.int .i64 (w64 (1 + v36)), .slice nums44a nums44.length nums44c]]⟩, ⟨.pointer (some p8_64), 3, [[.int .i64 v60.e, .int .i64 v60.n, .int .i64 v60.u]]⟩] drawMixed (by kernel_rfl) nopan (by (repeat (first | exact Sub.refl _ | exact Sub.nil _ | refine Sub.chunk (by repeat (first | exact Pick.here | apply Pick.there | apply Pick.seg)) (by rfl) ?_ | refine Sub.seg (by repeat (first | exact PickSeg.here | exact PickSeg.all | apply PickSeg.there | apply PickSeg.seg)) ?_ | exact Sub.seg0 (by repeat (first | exact PickSeg.here | exact PickSeg.all | apply PickSeg.there | apply PickSeg.seg)) | apply Sub.assoc))) ?_
              refine kt_d rfl rfl rfl (v_fb fa_31_1) ?_
              refine kt_d rfl rfl rfl (v_ldb Tryd.isAgg29) ?_
              refine kt_d rfl rfl rfl (v_ldB Tryd.isAgg37 Tryd.sizeOf37) ?_
              refine kt_d rfl rfl rfl (v_fb fa_31_0) ?_
              refine kt_d rfl rfl rfl (v_ldb Tryd.isAgg3) ?_
              refine kt_one ?_
              refine kl_k rfl rfl (n_call Tryd.call99 (w_spec_WayTimes hv65) ?_)
              rintro _ _ ⟨rfl, rfl⟩
              refine ⟨.inl (by (repeat (first | exact Sub.refl _ | exact Sub.nil _ | refine Sub.chunk (by repeat (first | exact Pick.here | apply Pick.there | apply Pick.seg)) (by rfl) ?_ | refine Sub.seg (by repeat (first | exact PickSeg.here | exact PickSeg.all | apply PickSeg.there | apply PickSeg.seg)) ?_ | exact Sub.seg0 (by repeat (first | exact PickSeg.here | exact PickSeg.all | apply PickSeg.there | apply PickSeg.seg)) | apply Sub.assoc))), ?_⟩
              refine kt_one ?_
              refine kl_k rfl rfl (n_lit (enc := encWay) [_] ([v66] : List Way) Tryd.runUnderlying29 Tryd.sizeOf37 Tryd.zeroValue37 (fun a68 => ?_))
              refine ⟨.inl (by (repeat (first | exact Sub.refl _ | exact Sub.nil _ | refine Sub.chunk (by repeat (first | exact Pick.here | apply Pick.there | apply Pick.seg)) (by rfl) ?_ | refine Sub.seg (by repeat (first | exact PickSeg.here | exact PickSeg.all | apply PickSeg.there | apply PickSeg.seg)) ?_ | exact Sub.seg0 (by repeat (first | exact PickSeg.here | exact PickSeg.all | apply PickSeg.there | apply PickSeg.seg)) | apply Sub.assoc))), ?_⟩
              refine kt_one ?_
              refine kl_k rfl rfl (n_app (enc := encWay) ok_encWay hz69 Tryd.underlying29 Tryd.type37 (by decide) (fun a70 c71 => ?_))
              refine ⟨.inl (by (repeat (first | exact Sub.refl _ | exact Sub.nil _ | refine Sub.chunk (by repeat (first | exact Pick.here | apply Pick.there | apply Pick.seg)) (by rfl) ?_ | refine Sub.seg (by repeat (first | exact PickSeg.here | exact PickSeg.all | apply PickSeg.there | apply PickSeg.seg)) ?_ | exact Sub.seg0 (by repeat (first | exact PickSeg.here | exact PickSeg.all | apply PickSeg.there | apply PickSeg.seg)) | apply Sub.assoc))), ?_⟩
              refine kt_d rfl rfl rfl (v_fb fa_31_1) ?_
              refine kt_one ?_
              refine kl_k rfl rfl (s_b (e' := [.int .i64 (w64 (1 + v36)), .slice a70 ((nums44 ++ ([v66] : List Way)).length) c71]) Tryd.sizeOf29 ?_)
              refine ⟨.inr ⟨by decide, rfl⟩, ?_⟩
              refine kt_nil ?_
              refine kn_block ?_
              refine kn_then ?_
              refine kwp_region ?_
              refine kd (v_mv) ?_
              refine kd (v_add) ?_
              refine kd (v_as) ?_
              refine kops_nil ?_
              refine kn_then ?_
              obtain rfl := e_some h57
              exact ⟨_, (a70, (nums44 ++ ([v66] : List Way)).length, c71), rfl, hd_mk trivial⟩
            ·
              replace h57 := e_f h57 hc58
              refine kwp_exit ?_
              refine ke_then ?_
              obtain rfl := e_some h57
              refine k_out ?_ rfl
              rintro rfl
              refine ke_block ?_
              exact ⟨(nums44a, nums44.length, nums44c), hd_mk trivial⟩
        · intro nums39 y73 _ h74
          obtain ⟨nums39a, nums39n, nums39c⟩ := y73
          refine kn_then ?_
          obtain rfl := e_some h74
          exact ⟨(nums39a, nums39n, nums39c), hd_mk trivial⟩
      ·
        replace h31 := e_f h31 hc34
        refine kwp_skip ?_
        refine kn_then ?_
        obtain rfl := e_some h31
        exact ⟨(q121a, v10.nums.length, q121c), hd_mk trivial⟩
    · intro z75 y76 _ h77
      obtain ⟨p28, den29, nums30⟩ := z75
      obtain ⟨nums30a, nums30n, nums30c⟩ := y76
      refine k_len (c := nums30c) (fun hl78 => ?_)
      subst hl78
      refine kwp_seq ?_
      refine kwp_seq ?_
      refine kwp_region ?_
      refine kd (v_as) ?_
      refine kops_nil ?_
      refine kn_then ?_
      refine kwp_cutE (inv := [(0, .pointer (some r0p)), (2, .pointer (some p2_2)), (3, .pointer (some p3_3)), (4, .pointer (some p4_8)), (5, .pointer (some p5_14))]) (fun (z : Int × List Way) (y : Unit) => []) (fun (z : Int × List Way) (y : Unit) => [⟨.pointer (some r0p), 2, [[.slice r00a r0.b.length r00c, .int .i64 z.1]]⟩, ⟨.slice nums30a (nums30.length) nums30c, 3, z.2.map encWay⟩, ⟨.pointer (some p2_2), 2, [[.int .i64 0, .slice none 0 0]]⟩, ⟨.slice none 0 0, 5, ([] : List Leg).map encLeg⟩, ⟨.pointer (some p3_3), 2, [[.int .i64 0, .slice none 0 0]]⟩, ⟨.slice none 0 0, 3, ([] : List Way).map encWay⟩, ⟨.pointer (some p4_8), 2, [[.int .i64 v5.st, .slice q71a v5.legs.length q71c]]⟩, ⟨.slice q71a v5.legs.length q71c, 5, v5.legs.map encLeg⟩, ⟨.pointer (some p5_14), 2, [[.int .i64 den29, .slice nums30a nums30.length nums30c]]⟩]) (fun _ _ => True) h77 ?_ ?_
      · intro t83 h81
        refine kwp_block ?_
        refine kwp_loopE (inv := [(0, .pointer (some r0p)), (2, .pointer (some p2_2)), (3, .pointer (some p3_3)), (4, .pointer (some p4_8)), (5, .pointer (some p5_14))]) (fun (z : Int × Int × List Way) (y : Unit) => [(10, .int .i64 z.1)]) (fun (z : Int × Int × List Way) (y : Unit) => [⟨.pointer (some r0p), 2, [[.slice r00a r0.b.length r00c, .int .i64 z.2.1]]⟩, ⟨.slice nums30a (nums30.length) nums30c, 3, z.2.2.map encWay⟩, ⟨.pointer (some p2_2), 2, [[.int .i64 0, .slice none 0 0]]⟩, ⟨.slice none 0 0, 5, ([] : List Leg).map encLeg⟩, ⟨.pointer (some p3_3), 2, [[.int .i64 0, .slice none 0 0]]⟩, ⟨.slice none 0 0, 3, ([] : List Way).map encWay⟩, ⟨.pointer (some p4_8), 2, [[.int .i64 v5.st, .slice q71a v5.legs.length q71c]]⟩, ⟨.slice q71a v5.legs.length q71c, 5, v5.legs.map encLeg⟩, ⟨.pointer (some p5_14), 2, [[.int .i64 den29, .slice nums30a nums30.length nums30c]]⟩]) (fun _ _ => True) h81 ⟨(), hd_mk trivial⟩ ?_
        intro z89 y90 b87 _ h88
        obtain ⟨k84, p85, l86⟩ := z89
        unfold p_spec_l20Fix_L1 at h88
        refine kwp_seq ?_
        refine kwp_seq ?_
        refine kwp_region ?_
        refine kd (v_mv) ?_
        refine kd (v_fb fa_31_1) ?_
        refine kd (v_ldb Tryd.isAgg29) ?_
        refine kd (v_len Tryd.runUnderlying29) ?_
        refine kd (v_cmp) ?_
        refine kops_nil ?_
        refine kn_then ?_
        refine kwp_cond rfl (fun hc91 => ?_) (fun hc91 => ?_)
        ·
          replace h88 := e_t h88 hc91
          refine kwp_skip ?_
          refine kn_then ?_
          refine kwp_seq ?_
          refine kwp_block ?_
          refine kwp_seq ?_
          refine kwp_region ?_
          refine kd (v_mv) ?_
          obtain ⟨⟨v93, v94⟩, hv92, h88⟩ := e_bind h88
          refine kk (n_call Tryd.call70 (w_spec_l20Rd_pick r0p r00a r0.b.length r00c hv92) ?_)
          rintro _ _ ⟨rfl, rfl⟩
          refine kd (v_cmp) ?_
          refine kops_nil ?_
          refine kn_then ?_
          refine kwp_cond rfl (fun hc96 => ?_) (fun hc96 => ?_)
          ·
            replace h88 := e_t h88 hc96
            obtain ⟨j97, ej97, nj97, h88⟩ := e_idx h88
            obtain ⟨⟨v99, v100⟩, hv98, h88⟩ := e_bind h88
            obtain ⟨⟨v103, v104⟩, hv102, h88⟩ := e_bind h88
            obtain ⟨⟨v107, v108⟩, hv106, h88⟩ := e_bind h88
            obtain ⟨v111, hv110, h88⟩ := e_bind h88
            refine kwp_tree (.quiet 0 (.quiet 1 (.quiet 2 (.quiet 3 (.quiet 4 (.quiet 5 (.quiet 6 (.quiet 7 (.quiet 8 (.quiet 11 (.quiet 14 (.one 9 (.quiet 10 (.one 12 (.quiet 13 (.one 15 (.quiet 16 (.quiet 17 (.one 18 (.quiet 19 (.one 20 .stop))))))))))))))))))))) [20] [⟨.pointer (some p5_14), 2, [[.int .i64 den29, .slice nums30a nums30.length nums30c]]⟩, ⟨.slice nums30a (nums30.length) nums30c, 3, l86.map encWay⟩] drawMixed (by kernel_rfl) nopan (by (repeat (first | exact Sub.refl _ | exact Sub.nil _ | refine Sub.chunk (by repeat (first | exact Pick.here | apply Pick.there | apply Pick.seg)) (by rfl) ?_ | refine Sub.seg (by repeat (first | exact PickSeg.here | exact PickSeg.all | apply PickSeg.there | apply PickSeg.seg)) ?_ | exact Sub.seg0 (by repeat (first | exact PickSeg.here | exact PickSeg.all | apply PickSeg.there | apply PickSeg.seg)) | apply Sub.assoc))) ?_
            refine kt_d rfl rfl rfl (v_fb fa_31_1) ?_
            refine kt_d rfl rfl rfl (v_ldb Tryd.isAgg29) ?_
            refine kt_d rfl rfl rfl (v_mv) ?_
            refine kt_d rfl rfl rfl (v_fb fa_31_1) ?_
            refine kt_d rfl rfl rfl (v_ldb Tryd.isAgg29) ?_
            refine kt_d rfl rfl rfl (v_mv) ?_
            refine kt_d rfl rfl rfl (v_ia ej97 nj97 Tryd.runUnderlying29 Tryd.sizeOf37) ?_
            refine kt_d rfl rfl rfl (v_lda (e := [_, _, _]) nj97 Tryd.isAgg37 Tryd.sizeOf37) ?_
            refine kt_d rfl rfl rfl (v_mv) ?_
            refine kt_d rfl rfl rfl (v_mv) ?_
            refine kt_d rfl rfl rfl (v_mv) ?_
            refine kt_one ?_
            refine kl_k rfl rfl (n_call Tryd.call70 (w_spec_l20Rd_pick r0p r00a r0.b.length r00c hv98) ?_)
            rintro _ _ ⟨rfl, rfl⟩
            refine ⟨.inl (by (repeat (first | exact Sub.refl _ | exact Sub.nil _ | refine Sub.chunk (by repeat (first | exact Pick.here | apply Pick.there | apply Pick.seg)) (by rfl) ?_ | refine Sub.seg (by repeat (first | exact PickSeg.here | exact PickSeg.all | apply PickSeg.there | apply PickSeg.seg)) ?_ | exact Sub.seg0 (by repeat (first | exact PickSeg.here | exact PickSeg.all | apply PickSeg.there | apply PickSeg.seg)) | apply Sub.assoc))), ?_⟩
            refine kt_d rfl rfl rfl (v_sub) ?_
            refine kt_one ?_
            refine kl_k rfl rfl (n_call Tryd.call70 (w_spec_l20Rd_pick r0p r00a r0.b.length r00c hv102) ?_)
            rintro _ _ ⟨rfl, rfl⟩
            refine ⟨.inl (by (repeat (first | exact Sub.refl _ | exact Sub.nil _ | refine Sub.chunk (by repeat (first | exact Pick.here | apply Pick.there | apply Pick.seg)) (by rfl) ?_ | refine Sub.seg (by repeat (first | exact PickSeg.here | exact PickSeg.all | apply PickSeg.there | apply PickSeg.seg)) ?_ | exact Sub.seg0 (by repeat (first | exact PickSeg.here | exact PickSeg.all | apply PickSeg.there | apply PickSeg.seg)) | apply Sub.assoc))), ?_⟩
            refine kt_d rfl rfl rfl (v_sub) ?_
            refine kt_one ?_
            refine kl_k rfl rfl (n_call Tryd.call70 (w_spec_l20Rd_pick r0p r00a r0.b.length r00c hv106) ?_)
            rintro _ _ ⟨rfl, rfl⟩
            refine ⟨.inl (by (repeat (first | exact Sub.refl _ | exact Sub.nil _ | refine Sub.chunk (by repeat (first | exact Pick.here | apply Pick.there | apply Pick.seg)) (by rfl) ?_ | refine Sub.seg (by repeat (first | exact PickSeg.here | exact PickSeg.all | apply PickSeg.there | apply PickSeg.seg)) ?_ | exact Sub.seg0 (by repeat (first | exact PickSeg.here | exact PickSeg.all | apply PickSeg.there | apply PickSeg.seg)) | apply Sub.assoc))), ?_⟩
            refine kt_d rfl rfl rfl (v_sub) ?_
            refine kt_d rfl rfl rfl (v_bd [(0, _), (1, _), (2, _)] [_, _, _] Tryd.zeroValue37 Tryd.runUnderlying37 pl_37) ?_
            refine kt_one ?_
            refine kl_k rfl rfl (n_call Tryd.call78 (w_spec_WayAdd hv110) ?_)
            rintro _ _ ⟨rfl, rfl⟩
            refine ⟨.inl (by (repeat (first | exact Sub.refl _ | exact Sub.nil _ | refine Sub.chunk (by repeat (first | exact Pick.here | apply Pick.there | apply Pick.seg)) (by rfl) ?_ | refine Sub.seg (by repeat (first | exact PickSeg.here | exact PickSeg.all | apply PickSeg.there | apply PickSeg.seg)) ?_ | exact Sub.seg0 (by repeat (first | exact PickSeg.here | exact PickSeg.all | apply PickSeg.there | apply PickSeg.seg)) | apply Sub.assoc))), ?_⟩
            refine kt_d rfl rfl rfl (v_ia ej97 nj97 Tryd.runUnderlying29 Tryd.sizeOf37) ?_
            refine kt_one ?_
            refine kl_k rfl rfl (s_a v111 nj97 Tryd.sizeOf37 ?_ (ok_encWay _))
            refine ⟨.inr ⟨by decide, rfl⟩, ?_⟩
            refine kt_nil ?_
            refine kn_block ?_
            refine kn_then ?_
            refine kwp_region ?_
            refine kd (v_mv) ?_
            refine kd (v_add) ?_
            refine kd (v_as) ?_
            refine kops_nil ?_
            refine kn_then ?_
            obtain rfl := e_some h88
            exact ⟨_, (), rfl, hd_mk trivial⟩
          ·
            replace h88 := e_f h88 hc96
            refine kwp_skip ?_
            refine kn_block ?_
            refine kn_then ?_
            refine kwp_region ?_
            refine kd (v_mv) ?_
            refine kd (v_add) ?_
            refine kd (v_as) ?_
            refine kops_nil ?_
            refine kn_then ?_
            obtain rfl := e_some h88
            exact ⟨_, (), rfl, hd_mk trivial⟩
        ·
          replace h88 := e_f h88 hc91
          refine kwp_exit ?_
          refine ke_then ?_
          obtain rfl := e_some h88
          refine k_out ?_ rfl
          rintro rfl
          refine ke_block ?_
          exact ⟨(), hd_mk trivial⟩
      · intro z113 y114 _ h115
        obtain ⟨p79, l80⟩ := z113
        refine kn_then ?_
        refine kwp_seq ?_
        refine kwp_seq ?_
        refine kwp_region ?_
        refine kd (v_mv) ?_
        obtain ⟨⟨v117, v118⟩, hv116, h115⟩ := e_bind h115
        refine kk (n_call Tryd.call104 (w_spec_l20Rd_odd r0p r00a r0.b.length r00c hv116) ?_)
        rintro _ _ ⟨rfl, rfl⟩
        refine kops_nil ?_
        refine kn_then ?_
        refine kwp_cond rfl (fun hc120 => ?_) (fun hc120 => ?_)
        ·
          replace h115 := e_t h115 hc120
          refine kwp_region ?_
          refine kk (n_lit (enc := encI) [_, _] ([0, 1000] : List Int) Tryd.runUnderlying26 Tryd.sizeOf3 Tryd.zeroValue3 (fun a121 => ?_))
          refine kd (v_mv) ?_
          obtain ⟨⟨v123, v124⟩, hv122, h115⟩ := e_bind h115
          refine kk (n_call Tryd.call70 (w_spec_l20Rd_pick r0p r00a r0.b.length r00c hv122) ?_)
          rintro _ _ ⟨rfl, rfl⟩
          obtain ⟨j126, ej126, nj126, h115⟩ := e_idx h115
          refine kd (v_ia ej126 nj126 Tryd.runUnderlying26 Tryd.sizeOf3) ?_
          refine kd (v_ldf nj126 Tryd.isAgg3) ?_
          refine kd (v_fb fa_31_0) ?_
          refine kk (s_b (e' := [.int .i64 (gx ([0, 1000] : List Int) j126), .slice nums30a nums30.length nums30c]) Tryd.sizeOf3 ?_)
          refine kops_nil ?_
          refine kn_then ?_
          refine kwp_seq ?_
          refine kwp_tree (.quiet 0 (.quiet 1 (.one 2 (.one 3 .stop)))) [] [⟨.pointer (some p4_8), 2, [[.int .i64 v5.st, .slice q71a v5.legs.length q71c]]⟩, ⟨.pointer (some p5_14), 2, [[.int .i64 (gx ([0, 1000] : List Int) j126), .slice nums30a nums30.length nums30c]]⟩] drawMixed (by kernel_rfl) nopan (by (repeat (first | exact Sub.refl _ | exact Sub.nil _ | refine Sub.chunk (by repeat (first | exact Pick.here | apply Pick.there | apply Pick.seg)) (by rfl) ?_ | refine Sub.seg (by repeat (first | exact PickSeg.here | exact PickSeg.all | apply PickSeg.there | apply PickSeg.seg)) ?_ | exact Sub.seg0 (by repeat (first | exact PickSeg.here | exact PickSeg.all | apply PickSeg.there | apply PickSeg.seg)) | apply Sub.assoc))) ?_
          refine kt_d rfl rfl rfl (v_ldB Tryd.isAgg25 Tryd.sizeOf25) ?_
          refine kt_d rfl rfl rfl (v_ldB Tryd.isAgg31 Tryd.sizeOf31) ?_
          refine kt_one ?_
          refine kl_k rfl rfl (s_B (e' := [.int .i64 v5.st, .slice q71a v5.legs.length q71c]) Tryd.sizeOf25 ?_)
          refine ⟨.inl (by (repeat (first | exact Sub.refl _ | exact Sub.nil _ | refine Sub.chunk (by repeat (first | exact Pick.here | apply Pick.there | apply Pick.seg)) (by rfl) ?_ | refine Sub.seg (by repeat (first | exact PickSeg.here | exact PickSeg.all | apply PickSeg.there | apply PickSeg.seg)) ?_ | exact Sub.seg0 (by repeat (first | exact PickSeg.here | exact PickSeg.all | apply PickSeg.there | apply PickSeg.seg)) | apply Sub.assoc))), ?_⟩
          refine kt_one ?_
          refine kl_k rfl rfl (s_B (e' := [.int .i64 (gx ([0, 1000] : List Int) j126), .slice nums30a nums30.length nums30c]) Tryd.sizeOf31 ?_)
          refine ⟨.inl (by (repeat (first | exact Sub.refl _ | exact Sub.nil _ | refine Sub.chunk (by repeat (first | exact Pick.here | apply Pick.there | apply Pick.seg)) (by rfl) ?_ | refine Sub.seg (by repeat (first | exact PickSeg.here | exact PickSeg.all | apply PickSeg.there | apply PickSeg.seg)) ?_ | exact Sub.seg0 (by repeat (first | exact PickSeg.here | exact PickSeg.all | apply PickSeg.there | apply PickSeg.seg)) | apply Sub.assoc))), ?_⟩
          refine kt_nil ?_
          refine kn_then ?_
          refine k_len (c := nums30c) (fun hl127 => ?_)
          refine kwp_ret ?_
          obtain rfl := e_some h115
          refine rcc Tryd.isAgg25 Tryd.sizeOf25 Tryd.isAgg31 Tryd.sizeOf31 [⟨.slice q71a v5.legs.length q71c, 5, v5.legs.map encLeg⟩, ⟨.slice nums30a (nums30.length) nums30c, 3, l80.map encWay⟩, ⟨.pointer (some r0p), 2, [[.slice r00a r0.b.length r00c, .int .i64 v124]]⟩] ?_
          exact ⟨q71a, q71c, nums30a, nums30c, by first | rfl | (rw [← hl127] <;> rfl) | ((try dsimp only); rw [← hl127] <;> rfl) | (simp; done), by first | rfl | (rw [← hl127] <;> rfl) | ((try dsimp only); rw [← hl127] <;> rfl) | (simp; done)⟩
        ·
          replace h115 := e_f h115 hc120
          refine kwp_skip ?_
          refine kn_then ?_
          refine kwp_seq ?_
          refine kwp_tree (.quiet 0 (.quiet 1 (.one 2 (.one 3 .stop)))) [] [⟨.pointer (some p4_8), 2, [[.int .i64 v5.st, .slice q71a v5.legs.length q71c]]⟩, ⟨.pointer (some p5_14), 2, [[.int .i64 den29, .slice nums30a nums30.length nums30c]]⟩] drawMixed (by kernel_rfl) nopan (by (repeat (first | exact Sub.refl _ | exact Sub.nil _ | refine Sub.chunk (by repeat (first | exact Pick.here | apply Pick.there | apply Pick.seg)) (by rfl) ?_ | refine Sub.seg (by repeat (first | exact PickSeg.here | exact PickSeg.all | apply PickSeg.there | apply PickSeg.seg)) ?_ | exact Sub.seg0 (by repeat (first | exact PickSeg.here | exact PickSeg.all | apply PickSeg.there | apply PickSeg.seg)) | apply Sub.assoc))) ?_
          refine kt_d rfl rfl rfl (v_ldB Tryd.isAgg25 Tryd.sizeOf25) ?_
          refine kt_d rfl rfl rfl (v_ldB Tryd.isAgg31 Tryd.sizeOf31) ?_
          refine kt_one ?_
          refine kl_k rfl rfl (s_B (e' := [.int .i64 v5.st, .slice q71a v5.legs.length q71c]) Tryd.sizeOf25 ?_)
          refine ⟨.inl (by (repeat (first | exact Sub.refl _ | exact Sub.nil _ | refine Sub.chunk (by repeat (first | exact Pick.here | apply Pick.there | apply Pick.seg)) (by rfl) ?_ | refine Sub.seg (by repeat (first | exact PickSeg.here | exact PickSeg.all | apply PickSeg.there | apply PickSeg.seg)) ?_ | exact Sub.seg0 (by repeat (first | exact PickSeg.here | exact PickSeg.all | apply PickSeg.there | apply PickSeg.seg)) | apply Sub.assoc))), ?_⟩
          refine kt_one ?_
          refine kl_k rfl rfl (s_B (e' := [.int .i64 den29, .slice nums30a nums30.length nums30c]) Tryd.sizeOf31 ?_)
          refine ⟨.inl (by (repeat (first | exact Sub.refl _ | exact Sub.nil _ | refine Sub.chunk (by repeat (first | exact Pick.here | apply Pick.there | apply Pick.seg)) (by rfl) ?_ | refine Sub.seg (by repeat (first | exact PickSeg.here | exact PickSeg.all | apply PickSeg.there | apply PickSeg.seg)) ?_ | exact Sub.seg0 (by repeat (first | exact PickSeg.here | exact PickSeg.all | apply PickSeg.there | apply PickSeg.seg)) | apply Sub.assoc))), ?_⟩
          refine kt_nil ?_
          refine kn_then ?_
          refine k_len (c := nums30c) (fun hl128 => ?_)
          refine kwp_ret ?_
          obtain rfl := e_some h115
          refine rcc Tryd.isAgg25 Tryd.sizeOf25 Tryd.isAgg31 Tryd.sizeOf31 [⟨.slice q71a v5.legs.length q71c, 5, v5.legs.map encLeg⟩, ⟨.slice nums30a (nums30.length) nums30c, 3, l80.map encWay⟩, ⟨.pointer (some r0p), 2, [[.slice r00a r0.b.length r00c, .int .i64 v118]]⟩] ?_
          exact ⟨q71a, q71c, nums30a, nums30c, by first | rfl | (rw [← hl128] <;> rfl) | ((try dsimp only); rw [← hl128] <;> rfl) | (simp; done), by first | rfl | (rw [← hl128] <;> rfl) | ((try dsimp only); rw [← hl128] <;> rfl) | (simp; done)⟩

end Go.Proofs.YtnibfmofkamjoaaDoor
