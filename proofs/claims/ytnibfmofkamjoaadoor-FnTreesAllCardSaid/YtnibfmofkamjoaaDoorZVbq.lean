/- What the plain programs return, the functions of the program return; no condition. -/
import Derived.Test.YtnibfmofkamjoaaDoorZQ
import Derived.Test.YtnibfmofkamjoaaDoorZFa
import Derived.Test.YtnibfmofkamjoaaDoorZVbp
namespace Go.Proofs.YtnibfmofkamjoaaDoor
open Go
set_option linter.unusedVariables false
set_option linter.unusedSimpArgs false

set_option maxRecDepth 20000 in
theorem w_spec_TreeLegs (s01a : Option Addr) (s01n : Nat) (s01c : Nat) {s0 : Survey} {r : List Int} (h : p_spec_TreeLegs s0 = some r) :
    Triple Tryd.prog 131 [.agg #[.int .i64 s0.st, .slice s01a s01n s01c]] [⟨.slice s01a s01n s01c, 5, s0.legs.map encLeg⟩] [] (fun v ch => ∃ (w0a : Option Addr) (w0c : Nat), v = .slice w0a r.length w0c ∧ ch = [⟨.slice w0a r.length w0c, 1, r.map encI⟩]) := by
  refine triple_start 45 Tryd.func131 Tryd.ntmps131 rfl rfl (fun w0 => ?_)
  refine k_len (c := s01c) (fun hl1 => ?_)
  subst hl1
  unfold p_spec_TreeLegs at h
  refine kwp_seq ?_
  refine kwp_region ?_
  refine kk (n_box (e := [.int .i64 s0.st, .slice s01a s0.legs.length s01c]) 2 (fun p1_2 => ?_))
  refine kops_nilchunk 1 (by decide) ?_
  refine kd (v_as) ?_
  refine kops_nil ?_
  refine kn_then ?_
  refine kwp_seq ?_
  refine kwp_region ?_
  refine kk (n_lit (enc := encI) [] ([] : List Int) Tryd.runUnderlying26 Tryd.sizeOf3 Tryd.zeroValue3 (fun a3 => ?_))
  refine kd (v_as) ?_
  refine kops_nil ?_
  refine kn_then ?_
  refine kwp_seq ?_
  refine kwp_seq ?_
  refine kwp_region ?_
  refine kd (v_as) ?_
  refine kops_nil ?_
  refine kn_then ?_
  refine kwp_cutE (inv := []) (fun (z : List Int) (y : Option Addr × Nat × Nat) => [(3, .slice y.1 y.2.1 y.2.2)]) (fun (z : List Int) (y : Option Addr × Nat × Nat) => [⟨.slice y.1 y.2.1 y.2.2, 1, z.map encI⟩]) (fun _ _ => True) h ?_ ?_
  · intro t7 h5
    refine kwp_block ?_
    refine kwp_loopE (inv := [(1, .pointer (some p1_2))]) (fun (z : List Int × Int) (y : Option Addr × Nat × Nat) => [(3, .slice y.1 y.2.1 y.2.2), (4, .int .i64 z.2)]) (fun (z : List Int × Int) (y : Option Addr × Nat × Nat) => [⟨.slice y.1 y.2.1 y.2.2, 1, z.1.map encI⟩, ⟨.pointer (some p1_2), 2, [[.int .i64 s0.st, .slice s01a s0.legs.length s01c]]⟩]) (fun _ _ => True) h5 ⟨(some a3, 0, 0), hd_mk trivial⟩ ?_
    intro z12 y13 b10 _ h11
    obtain ⟨out8, k9⟩ := z12
    obtain ⟨out8a, out8n, out8c⟩ := y13
    refine k_len (c := out8c) (fun hl14 => ?_)
    subst hl14
    unfold p_spec_TreeLegs_L0 at h11
    refine kwp_seq ?_
    refine kwp_seq ?_
    refine kwp_cutE (inv := [(1, .pointer (some p1_2)), (3, .slice out8a out8.length out8c), (4, .int .i64 k9)]) (fun (z : Bool) (y : Unit) => [(15, .bool z)]) (fun (z : Bool) (y : Unit) => [⟨.pointer (some p1_2), 2, [[.int .i64 s0.st, .slice s01a s0.legs.length s01c]]⟩, ⟨.slice out8a (out8.length) out8c, 1, out8.map encI⟩]) (fun _ _ => True) h11 ?_ ?_
    · intro t18 h16
      refine kwp_region ?_
      refine kd (v_mv) ?_
      refine kd (v_fb fa_25_1) ?_
      refine kd (v_ldb Tryd.isAgg23) ?_
      refine kd (v_len Tryd.runUnderlying23) ?_
      refine kd (v_cmp) ?_
      refine kd (v_mv) ?_
      refine kops_split 12 rfl (fun hb19 => ?_) (fun hb19 => ?_)
      ·
        replace h16 := e_t h16 hb19
        refine kgd hb19 (v_ldB Tryd.isAgg25 Tryd.sizeOf25) ?_
        obtain ⟨v21, hv20, h16⟩ := e_bind h16
        refine kgk hb19 (n_call Tryd.call39 (w_spec_SurveyValid s01a s0.legs.length s01c hv20) ?_)
        rintro _ _ ⟨rfl, rfl⟩
        refine kd (v_pt hb19) ?_
        refine kops_nil ?_
        refine kn_then ?_
        obtain rfl := e_some h16
        exact ⟨(), hd_mk trivial⟩
      ·
        replace h16 := e_f h16 hb19
        refine kskip hb19 ?_
        refine kskip hb19 ?_
        refine kd (v_pf hb19) ?_
        refine kops_nil ?_
        refine kn_then ?_
        obtain rfl := e_some h16
        exact ⟨(), hd_mk trivial⟩
    · intro x15 y24 _ h25
      refine kn_then ?_
      refine kwp_cond rfl (fun hc26 => ?_) (fun hc26 => ?_)
      ·
        replace h25 := e_t h25 hc26
        refine kwp_skip ?_
        refine kn_then ?_
        refine kwp_seq ?_
        refine kwp_block ?_
        refine kwp_seq ?_
        refine kwp_region ?_
        refine kd (v_ldB Tryd.isAgg25 Tryd.sizeOf25) ?_
        refine kd (v_mv) ?_
        obtain ⟨v28, hv27, h25⟩ := e_bind h25
        refine kk (n_call Tryd.call111 (w_spec_l1Parts s01a s0.legs.length s01c out8a out8.length out8c hv27) ?_)
        rintro _ _ ⟨q29a, q29c, rfl, rfl⟩
        refine kd (v_as) ?_
        refine kops_nil ?_
        refine kn_then ?_
        refine kwp_seq ?_
        obtain ⟨j30, ej30, nj30, h25⟩ := e_idx h25
        obtain ⟨j31, ej31, nj31, h25⟩ := e_idx h25
        obtain ⟨j32, ej32, nj32, h25⟩ := e_idx h25
        refine kwp_tree (.quiet 0 (.quiet 1 (.quiet 2 (.quiet 3 (.quiet 4 (.quiet 5 (.quiet 6 (.quiet 7 (.quiet 8 (.quiet 9 (.quiet 10 (.quiet 11 (.quiet 12 (.quiet 13 (.quiet 14 (.quiet 15 (.quiet 16 (.quiet 17 (.quiet 18 .stop))))))))))))))))))) [] [⟨.pointer (some p1_2), 2, [[.int .i64 s0.st, .slice s01a s0.legs.length s01c]]⟩, ⟨.slice q29a v28.length q29c, 1, v28.map encI⟩] drawMixed (by kernel_rfl) nopan (by (repeat (first | exact Sub.refl _ | exact Sub.nil _ | refine Sub.chunk (by repeat (first | exact Pick.here | apply Pick.there | apply Pick.seg)) (by rfl) ?_ | refine Sub.seg (by repeat (first | exact PickSeg.here | exact PickSeg.all | apply PickSeg.there | apply PickSeg.seg)) ?_ | exact Sub.seg0 (by repeat (first | exact PickSeg.here | exact PickSeg.all | apply PickSeg.there | apply PickSeg.seg)) | apply Sub.assoc))) ?_
        refine kt_d rfl rfl rfl (v_mv) ?_
        refine kt_d rfl rfl rfl (v_fb fa_25_1) ?_
        refine kt_d rfl rfl rfl (v_ldb Tryd.isAgg23) ?_
        refine kt_d rfl rfl rfl (v_mv) ?_
        refine kt_d rfl rfl rfl (v_ia ej30 nj30 Tryd.runUnderlying23 Tryd.sizeOf48) ?_
        refine kt_d rfl rfl rfl (v_fa nj30 fa_48_0) ?_
        refine kt_d rfl rfl rfl (v_ldf nj30 Tryd.isAgg3) ?_
        refine kt_d rfl rfl rfl (v_ia ej31 nj31 Tryd.runUnderlying26 Tryd.sizeOf3) ?_
        refine kt_d rfl rfl rfl (v_ldf nj31 Tryd.isAgg3) ?_
        refine kt_d rfl rfl rfl (v_mv) ?_
        refine kt_d rfl rfl rfl (v_fb fa_25_1) ?_
        refine kt_d rfl rfl rfl (v_ldb Tryd.isAgg23) ?_
        refine kt_d rfl rfl rfl (v_mv) ?_
        refine kt_d rfl rfl rfl (v_ia ej30 nj30 Tryd.runUnderlying23 Tryd.sizeOf48) ?_
        refine kt_d rfl rfl rfl (v_fa nj30 fa_48_1) ?_
        refine kt_d rfl rfl rfl (v_ldf nj30 Tryd.isAgg3) ?_
        refine kt_d rfl rfl rfl (v_ia ej32 nj32 Tryd.runUnderlying26 Tryd.sizeOf3) ?_
        refine kt_d rfl rfl rfl (v_ldf nj32 Tryd.isAgg3) ?_
        refine kt_d rfl rfl rfl (v_cmp) ?_
        refine kt_nil ?_
        refine kn_then ?_
        refine kwp_cond rfl (fun hc33 => ?_) (fun hc33 => ?_)
        ·
          replace h25 := e_t h25 hc33
          refine kwp_region ?_
          refine kd (v_mv) ?_
          refine kd (v_mv) ?_
          refine kk (n_lit (enc := encI) [_] ([k9] : List Int) Tryd.runUnderlying26 Tryd.sizeOf3 Tryd.zeroValue3 (fun a34 => ?_))
          obtain ⟨hz35, h25⟩ := e_need h25
          refine kk (n_app (enc := encI) ok_encI hz35 Tryd.underlying26 Tryd.type3 (by decide) (fun a36 c37 => ?_))
          refine kd (v_as) ?_
          refine kops_nil ?_
          refine kn_block ?_
          refine kn_then ?_
          refine kwp_region ?_
          refine kd (v_mv) ?_
          refine kd (v_add) ?_
          refine kd (v_as) ?_
          refine kops_nil ?_
          refine kn_then ?_
          obtain rfl := e_some h25
          exact ⟨_, (a36, (out8 ++ ([k9] : List Int)).length, c37), rfl, hd_mk trivial⟩
        ·
          replace h25 := e_f h25 hc33
          refine kwp_skip ?_
          refine kn_block ?_
          refine kn_then ?_
          refine kwp_region ?_
          refine kd (v_mv) ?_
          refine kd (v_add) ?_
          refine kd (v_as) ?_
          refine kops_nil ?_
          refine kn_then ?_
          obtain rfl := e_some h25
          exact ⟨_, (out8a, out8.length, out8c), rfl, hd_mk trivial⟩
      ·
        replace h25 := e_f h25 hc26
        refine kwp_exit ?_
        refine ke_then ?_
        obtain rfl := e_some h25
        refine k_out ?_ rfl
        rintro rfl
        refine ke_block ?_
        exact ⟨(out8a, out8.length, out8c), hd_mk trivial⟩
  · intro out4 y39 _ h40
    obtain ⟨out4a, out4n, out4c⟩ := y39
    refine k_len (c := out4c) (fun hl41 => ?_)
    subst hl41
    refine kwp_seq ?_
    refine kwp_region ?_
    refine kd (v_mv) ?_
    refine kd (v_as) ?_
    refine kops_nil ?_
    refine kn_then ?_
    refine kwp_ret ?_
    obtain rfl := e_some h40
    refine r1 [⟨.slice out4a (out4.length) out4c, 1, out4.map encI⟩] ?_
    exact ⟨out4a, out4c, rfl, rfl⟩

set_option maxRecDepth 20000 in
set_option maxHeartbeats 2000000 in
theorem w_spec_l1Find : ∀ (fuel : Nat) (s01a : Option Addr) (s01n : Nat) (s01c : Nat) (use0a : Option Addr) (use0n : Nat) (use0c : Nat) {s0 : Survey} {use0 : List Int} {from0 : Int} {to0 : Int} {but0 : Int} {r : List Step × Bool} (h : p_spec_l1Find fuel s0 use0 from0 to0 but0 = some r), Triple Tryd.prog 130 [.agg #[.int .i64 s0.st, .slice s01a s01n s01c], .slice use0a use0n use0c, .int .i64 from0, .int .i64 to0, .int .i64 but0] [⟨.slice s01a s01n s01c, 5, s0.legs.map encLeg⟩, ⟨.slice use0a use0n use0c, 1, use0.map encI⟩] [] (fun v ch => ∃ (w0a : Option Addr) (w0c : Nat), v = .tuple #[.slice w0a r.1.length w0c, .bool r.2] ∧ ch = [⟨.slice w0a r.1.length w0c, 2, r.1.map encStep⟩]) := by
  intro fuel
  induction fuel with
  | zero => intros; rename_i h; cases h
  | succ fuel ih =>
    intro s01a s01n s01c use0a use0n use0c s0 use0 from0 to0 but0 r h
    refine triple_start 95 Tryd.func130 Tryd.ntmps130 rfl rfl (fun w0 => ?_)
    refine k_len (c := s01c) (fun hl1 => ?_)
    subst hl1
    refine k_len (c := use0c) (fun hl2 => ?_)
    subst hl2
    unfold p_spec_l1Find at h
    refine kwp_seq ?_
    refine kwp_region ?_
    refine kk (n_box (e := [.int .i64 s0.st, .slice s01a s0.legs.length s01c]) 2 (fun p5_3 => ?_))
    refine kops_nilchunk 2 (by decide) ?_
    refine kd (v_as) ?_
    refine kd (v_as) ?_
    refine kops_nil ?_
    refine kn_then ?_
    refine kwp_seq ?_
    refine kwp_seq ?_
    refine kwp_region ?_
    refine kd (v_mv) ?_
    refine kd (v_mv) ?_
    refine kd (v_cmp) ?_
    refine kops_nil ?_
    refine kn_then ?_
    refine kwp_cond rfl (fun hc4 => ?_) (fun hc4 => ?_)
    ·
      replace h := e_t h hc4
      refine kwp_seq ?_
      refine kwp_region ?_
      refine kk (n_lit (enc := encStep) [] ([] : List Step) Tryd.runUnderlying64 Tryd.sizeOf68 Tryd.zeroValue68 (fun a5 => ?_))
      refine kd (v_as) ?_
      refine kd (v_as) ?_
      refine kops_nil ?_
      refine kn_then ?_
      refine kwp_ret ?_
      refine kr_then ?_
      obtain rfl := e_some h
      refine r2 [⟨.slice (some a5) 0 0, 2, ([] : List Step).map encStep⟩] ?_
      exact ⟨some a5, 0, rfl, rfl⟩
    ·
      replace h := e_f h hc4
      refine kwp_skip ?_
      refine kn_then ?_
      refine kwp_seq ?_
      refine kwp_seq ?_
      refine kwp_region ?_
      refine kd (v_as) ?_
      refine kops_nil ?_
      refine kn_then ?_
      refine kwp_cutO (inv := []) (fun (z : Unit) (y : Unit) => []) (fun (z : Unit) (y : Unit) => []) (fun _ _ => True) h ?_ ?_
      · intro t8 h6 g7
        refine kwp_block ?_
        refine kwp_loopE (inv := [(1, .slice use0a use0.length use0c), (2, .int .i64 from0), (3, .int .i64 to0), (4, .int .i64 but0), (5, .pointer (some p5_3))]) (fun (z : Int) (y : Unit) => [(12, .int .i64 z)]) (fun (z : Int) (y : Unit) => [⟨.pointer (some p5_3), 2, [[.int .i64 s0.st, .slice s01a s0.legs.length s01c]]⟩]) (fun _ _ => True) h6 ⟨(), hd_mk trivial⟩ ?_
        intro n9 y13 b10 _ h11
        unfold p_spec_l1Find_L0 at h11
        refine kwp_seq ?_
        refine kwp_seq ?_
        refine kwp_region ?_
        refine kd (v_mv) ?_
        refine kd (v_mv) ?_
        refine kd (v_len Tryd.runUnderlying26) ?_
        refine kd (v_cmp) ?_
        refine kops_nil ?_
        refine kn_then ?_
        refine kwp_cond rfl (fun hc14 => ?_) (fun hc14 => ?_)
        ·
          replace h11 := e_t h11 hc14
          refine kwp_skip ?_
          refine kn_then ?_
          refine kwp_seq ?_
          refine kwp_block ?_
          refine kwp_seq ?_
          obtain ⟨j15, ej15, nj15, h11⟩ := e_idx h11
          obtain ⟨j16, ej16, nj16, h11⟩ := e_idx h11
          refine kwp_tree (.quiet 0 (.quiet 1 (.quiet 2 (.quiet 3 (.quiet 4 (.quiet 5 (.quiet 6 (.quiet 7 (.one 8 (.one 9 .stop)))))))))) [] [⟨.pointer (some p5_3), 2, [[.int .i64 s0.st, .slice s01a s0.legs.length s01c]]⟩] drawMixed (by kernel_rfl) nopan (by (repeat (first | exact Sub.refl _ | exact Sub.nil _ | refine Sub.chunk (by repeat (first | exact Pick.here | apply Pick.there | apply Pick.seg)) (by rfl) ?_ | refine Sub.seg (by repeat (first | exact PickSeg.here | exact PickSeg.all | apply PickSeg.there | apply PickSeg.seg)) ?_ | exact Sub.seg0 (by repeat (first | exact PickSeg.here | exact PickSeg.all | apply PickSeg.there | apply PickSeg.seg)) | apply Sub.assoc))) ?_
          refine kt_d rfl rfl rfl (v_fb fa_25_1) ?_
          refine kt_d rfl rfl rfl (v_ldb Tryd.isAgg23) ?_
          refine kt_d rfl rfl rfl (v_mv) ?_
          refine kt_d rfl rfl rfl (v_mv) ?_
          refine kt_d rfl rfl rfl (v_ia ej15 nj15 Tryd.runUnderlying26 Tryd.sizeOf3) ?_
          refine kt_d rfl rfl rfl (v_ldf nj15 Tryd.isAgg3) ?_
          refine kt_d rfl rfl rfl (v_ia ej16 nj16 Tryd.runUnderlying23 Tryd.sizeOf48) ?_
          refine kt_d rfl rfl rfl (v_lda (e := [_, _, _, _, _]) nj16 Tryd.isAgg48 Tryd.sizeOf48) ?_
          refine kt_one ?_
          refine kl_k rfl rfl (n_alloc (e := [.int .i64 0, .int .i64 0, .int .i64 0, .int .i64 0, .int .i64 0]) 5 Tryd.zeroValue48 (fun p13_17 => ?_))
          refine ⟨.inl (by (repeat (first | exact Sub.refl _ | exact Sub.nil _ | refine Sub.chunk (by repeat (first | exact Pick.here | apply Pick.there | apply Pick.seg)) (by rfl) ?_ | refine Sub.seg (by repeat (first | exact PickSeg.here | exact PickSeg.all | apply PickSeg.there | apply PickSeg.seg)) ?_ | exact Sub.seg0 (by repeat (first | exact PickSeg.here | exact PickSeg.all | apply PickSeg.there | apply PickSeg.seg)) | apply Sub.assoc))), ?_⟩
          refine kt_one ?_
          refine kl_k rfl rfl (s_B (e' := [.int .i64 ((gx s0.legs j16).f), .int .i64 ((gx s0.legs j16).t), .int .i64 ((gx s0.legs j16).e), .int .i64 ((gx s0.legs j16).n), .int .i64 ((gx s0.legs j16).u)]) Tryd.sizeOf48 ?_)
          refine ⟨.inl (by (repeat (first | exact Sub.refl _ | exact Sub.nil _ | refine Sub.chunk (by repeat (first | exact Pick.here | apply Pick.there | apply Pick.seg)) (by rfl) ?_ | refine Sub.seg (by repeat (first | exact PickSeg.here | exact PickSeg.all | apply PickSeg.there | apply PickSeg.seg)) ?_ | exact Sub.seg0 (by repeat (first | exact PickSeg.here | exact PickSeg.all | apply PickSeg.there | apply PickSeg.seg)) | apply Sub.assoc))), ?_⟩
          refine kt_nil ?_
          refine kn_then ?_
          refine kwp_seq ?_
          refine kwp_seq ?_
          refine kwp_cutE (inv := [(1, .slice use0a use0.length use0c), (2, .int .i64 from0), (3, .int .i64 to0), (4, .int .i64 but0), (5, .pointer (some p5_3)), (12, .int .i64 n9), (13, .pointer (some p13_17))]) (fun (z : Bool) (y : Unit) => [(45, .bool z)]) (fun (z : Bool) (y : Unit) => [⟨.pointer (some p5_3), 2, [[.int .i64 s0.st, .slice s01a s0.legs.length s01c]]⟩, ⟨.pointer (some p13_17), 5, [[.int .i64 ((gx s0.legs j16).f), .int .i64 ((gx s0.legs j16).t), .int .i64 ((gx s0.legs j16).e), .int .i64 ((gx s0.legs j16).n), .int .i64 ((gx s0.legs j16).u)]]⟩]) (fun _ _ => True) h11 ?_ ?_
          · intro t21 h19
            refine kwp_region ?_
            refine kd (v_fb fa_48_0) ?_
            refine kd (v_ldb Tryd.isAgg3) ?_
            refine kd (v_mv) ?_
            refine kd (v_cmp) ?_
            refine kd (v_mv) ?_
            refine kops_split 40 rfl (fun hb22 => ?_) (fun hb22 => ?_)
            ·
              replace h19 := e_t h19 hb22
              refine kgd hb22 (v_fb fa_48_1) ?_
              refine kgd hb22 (v_ldb Tryd.isAgg3) ?_
              refine kgd hb22 (v_mv) ?_
              refine kgd hb22 (v_cmp) ?_
              refine kd (v_pt hb22) ?_
              refine kops_nil ?_
              refine kn_then ?_
              obtain rfl := e_some h19
              exact ⟨(), hd_mk trivial⟩
            ·
              replace h19 := e_f h19 hb22
              refine kskip hb22 ?_
              refine kskip hb22 ?_
              refine kskip hb22 ?_
              refine kskip hb22 ?_
              refine kd (v_pf hb22) ?_
              refine kops_nil ?_
              refine kn_then ?_
              obtain rfl := e_some h19
              exact ⟨(), hd_mk trivial⟩
          · intro x18 y24 _ h25
            refine kn_then ?_
            refine kwp_cutO (inv := [(1, .slice use0a use0.length use0c), (2, .int .i64 from0), (3, .int .i64 to0), (4, .int .i64 but0), (5, .pointer (some p5_3)), (12, .int .i64 n9), (13, .pointer (some p13_17))]) (fun (z : Unit) (y : Unit) => []) (fun (z : Unit) (y : Unit) => [⟨.pointer (some p5_3), 2, [[.int .i64 s0.st, .slice s01a s0.legs.length s01c]]⟩, ⟨.pointer (some p13_17), 5, [[.int .i64 ((gx s0.legs j16).f), .int .i64 ((gx s0.legs j16).t), .int .i64 ((gx s0.legs j16).e), .int .i64 ((gx s0.legs j16).n), .int .i64 ((gx s0.legs j16).u)]]⟩]) (fun _ _ => True) h25 ?_ ?_
            · intro t28 h26 g27
              refine kwp_cond rfl (fun hc29 => ?_) (fun hc29 => ?_)
              ·
                replace h26 := e_t h26 hc29
                refine kwp_seq ?_
                refine kwp_region ?_
                refine kd (v_ldB Tryd.isAgg25 Tryd.sizeOf25) ?_
                refine kd (v_mv) ?_
                refine kd (v_fb fa_48_1) ?_
                refine kd (v_ldb Tryd.isAgg3) ?_
                refine kd (v_mv) ?_
                refine kd (v_mv) ?_
                obtain ⟨⟨v31, v32⟩, hv30, h26⟩ := e_bind h26
                refine kk (n_call Tryd.call130 (ih s01a s0.legs.length s01c use0a use0.length use0c hv30) ?_)
                rintro _ _ ⟨q33a, q33c, rfl, rfl⟩
                refine kd (v_mv) ?_
                refine kd (v_ex) ?_
                refine kd (v_ex) ?_
                refine kd (v_as) ?_
                refine kd (v_as) ?_
                refine kops_nil ?_
                refine kn_then ?_
                refine kwp_seq ?_
                refine kwp_region ?_
                refine kd (v_mv) ?_
                refine kops_nil ?_
                refine kn_then ?_
                refine kwp_cond rfl (fun hc35 => ?_) (fun hc35 => ?_)
                ·
                  replace h26 := e_t h26 hc35
                  refine kwp_seq ?_
                  refine kwp_region ?_
                  refine kd (v_mv) ?_
                  refine kd (v_mv) ?_
                  obtain ⟨j36, ej36, nj36, h26⟩ := e_idx h26
                  refine kd (v_ia ej36 nj36 Tryd.runUnderlying26 Tryd.sizeOf3) ?_
                  refine kd (v_ldf nj36 Tryd.isAgg3) ?_
                  refine kd (v_bd [(0, _)] [_, .bool false] Tryd.zeroValue68 Tryd.runUnderlying68 pl_68) ?_
                  refine kk (n_lit (enc := encStep) [_] ([(⟨gx use0 j36, false⟩ : Step)] : List Step) Tryd.runUnderlying64 Tryd.sizeOf68 Tryd.zeroValue68 (fun a37 => ?_))
                  refine kd (v_mv) ?_
                  obtain ⟨hz38, h26⟩ := e_need h26
                  refine kk (n_app (enc := encStep) ok_encStep hz38 Tryd.underlying64 Tryd.type68 (by decide) (fun a39 c40 => ?_))
                  refine kd (v_as) ?_
                  refine kd (v_as) ?_
                  refine kops_nil ?_
                  refine kn_then ?_
                  refine kwp_ret ?_
                  refine kr_then ?_
                  obtain rfl := e_some h26
                  refine kr_then ?_
                  refine kr_block ?_
                  refine kr_then ?_
                  refine kr_then ?_
                  obtain rfl := e_some g27
                  refine k_out ?_ rfl
                  rintro rfl
                  refine kr_block ?_
                  refine kr_then ?_
                  refine kr_then ?_
                  obtain rfl := e_some g7
                  refine r2 [⟨.slice a39 ((([(⟨gx use0 j36, false⟩ : Step)] : List Step) ++ v31).length) c40, 2, (([(⟨gx use0 j36, false⟩ : Step)] : List Step) ++ v31).map encStep⟩] ?_
                  exact ⟨a39, c40, rfl, rfl⟩
                ·
                  replace h26 := e_f h26 hc35
                  refine kwp_skip ?_
                  refine kn_then ?_
                  obtain rfl := e_some h26
                  exact ⟨_, (), rfl, hd_mk trivial⟩
              ·
                replace h26 := e_f h26 hc29
                refine kwp_skip ?_
                refine kn_then ?_
                obtain rfl := e_some h26
                exact ⟨_, (), rfl, hd_mk trivial⟩
            · intro z41 y42 _ h43
              refine kn_then ?_
              refine kwp_seq ?_
              refine kwp_cutE (inv := [(1, .slice use0a use0.length use0c), (2, .int .i64 from0), (3, .int .i64 to0), (4, .int .i64 but0), (5, .pointer (some p5_3)), (12, .int .i64 n9), (13, .pointer (some p13_17))]) (fun (z : Bool) (y : Unit) => [(74, .bool z)]) (fun (z : Bool) (y : Unit) => [⟨.pointer (some p5_3), 2, [[.int .i64 s0.st, .slice s01a s0.legs.length s01c]]⟩, ⟨.pointer (some p13_17), 5, [[.int .i64 ((gx s0.legs j16).f), .int .i64 ((gx s0.legs j16).t), .int .i64 ((gx s0.legs j16).e), .int .i64 ((gx s0.legs j16).n), .int .i64 ((gx s0.legs j16).u)]]⟩]) (fun _ _ => True) h43 ?_ ?_
              · intro t47 h45
                refine kwp_region ?_
                refine kd (v_fb fa_48_1) ?_
                refine kd (v_ldb Tryd.isAgg3) ?_
                refine kd (v_mv) ?_
                refine kd (v_cmp) ?_
                refine kd (v_mv) ?_
                refine kops_split 69 rfl (fun hb48 => ?_) (fun hb48 => ?_)
                ·
                  replace h45 := e_t h45 hb48
                  refine kgd hb48 (v_fb fa_48_0) ?_
                  refine kgd hb48 (v_ldb Tryd.isAgg3) ?_
                  refine kgd hb48 (v_mv) ?_
                  refine kgd hb48 (v_cmp) ?_
                  refine kd (v_pt hb48) ?_
                  refine kops_nil ?_
                  refine kn_then ?_
                  obtain rfl := e_some h45
                  exact ⟨(), hd_mk trivial⟩
                ·
                  replace h45 := e_f h45 hb48
                  refine kskip hb48 ?_
                  refine kskip hb48 ?_
                  refine kskip hb48 ?_
                  refine kskip hb48 ?_
                  refine kd (v_pf hb48) ?_
                  refine kops_nil ?_
                  refine kn_then ?_
                  obtain rfl := e_some h45
                  exact ⟨(), hd_mk trivial⟩
              · intro x44 y50 _ h51
                refine kn_then ?_
                refine kwp_cond rfl (fun hc52 => ?_) (fun hc52 => ?_)
                ·
                  replace h51 := e_t h51 hc52
                  refine kwp_seq ?_
                  refine kwp_region ?_
                  refine kd (v_ldB Tryd.isAgg25 Tryd.sizeOf25) ?_
                  refine kd (v_mv) ?_
                  refine kd (v_fb fa_48_0) ?_
                  refine kd (v_ldb Tryd.isAgg3) ?_
                  refine kd (v_mv) ?_
                  refine kd (v_mv) ?_
                  obtain ⟨⟨v54, v55⟩, hv53, h51⟩ := e_bind h51
                  refine kk (n_call Tryd.call130 (ih s01a s0.legs.length s01c use0a use0.length use0c hv53) ?_)
                  rintro _ _ ⟨q56a, q56c, rfl, rfl⟩
                  refine kd (v_mv) ?_
                  refine kd (v_ex) ?_
                  refine kd (v_ex) ?_
                  refine kd (v_as) ?_
                  refine kd (v_as) ?_
                  refine kops_nil ?_
                  refine kn_then ?_
                  refine kwp_seq ?_
                  refine kwp_region ?_
                  refine kd (v_mv) ?_
                  refine kops_nil ?_
                  refine kn_then ?_
                  refine kwp_cond rfl (fun hc58 => ?_) (fun hc58 => ?_)
                  ·
                    replace h51 := e_t h51 hc58
                    refine kwp_seq ?_
                    refine kwp_region ?_
                    refine kd (v_mv) ?_
                    refine kd (v_mv) ?_
                    obtain ⟨j59, ej59, nj59, h51⟩ := e_idx h51
                    refine kd (v_ia ej59 nj59 Tryd.runUnderlying26 Tryd.sizeOf3) ?_
                    refine kd (v_ldf nj59 Tryd.isAgg3) ?_
                    refine kd (v_bd [(0, _), (1, _)] [_, _] Tryd.zeroValue68 Tryd.runUnderlying68 pl_68) ?_
                    refine kk (n_lit (enc := encStep) [_] ([(⟨gx use0 j59, true⟩ : Step)] : List Step) Tryd.runUnderlying64 Tryd.sizeOf68 Tryd.zeroValue68 (fun a60 => ?_))
                    refine kd (v_mv) ?_
                    obtain ⟨hz61, h51⟩ := e_need h51
                    refine kk (n_app (enc := encStep) ok_encStep hz61 Tryd.underlying64 Tryd.type68 (by decide) (fun a62 c63 => ?_))
                    refine kd (v_as) ?_
                    refine kd (v_as) ?_
                    refine kops_nil ?_
                    refine kn_then ?_
                    refine kwp_ret ?_
                    refine kr_block ?_
                    refine kr_then ?_
                    refine kr_then ?_
                    obtain rfl := e_some h51
                    refine k_out ?_ rfl
                    rintro rfl
                    refine kr_block ?_
                    refine kr_then ?_
                    refine kr_then ?_
                    obtain rfl := e_some g7
                    refine r2 [⟨.slice a62 ((([(⟨gx use0 j59, true⟩ : Step)] : List Step) ++ v54).length) c63, 2, (([(⟨gx use0 j59, true⟩ : Step)] : List Step) ++ v54).map encStep⟩] ?_
                    exact ⟨a62, c63, rfl, rfl⟩
                  ·
                    replace h51 := e_f h51 hc58
                    refine kwp_skip ?_
                    refine kn_block ?_
                    refine kn_then ?_
                    refine kwp_region ?_
                    refine kd (v_mv) ?_
                    refine kd (v_add) ?_
                    refine kd (v_as) ?_
                    refine kops_nil ?_
                    refine kn_then ?_
                    obtain rfl := e_some h51
                    exact ⟨_, (), rfl, hd_mk trivial⟩
                ·
                  replace h51 := e_f h51 hc52
                  refine kwp_skip ?_
                  refine kn_block ?_
                  refine kn_then ?_
                  refine kwp_region ?_
                  refine kd (v_mv) ?_
                  refine kd (v_add) ?_
                  refine kd (v_as) ?_
                  refine kops_nil ?_
                  refine kn_then ?_
                  obtain rfl := e_some h51
                  exact ⟨_, (), rfl, hd_mk trivial⟩
        ·
          replace h11 := e_f h11 hc14
          refine kwp_exit ?_
          refine ke_then ?_
          obtain rfl := e_some h11
          refine k_out ?_ rfl
          rintro rfl
          refine ke_block ?_
          exact ⟨_, (), rfl, hd_mk trivial⟩
      · intro z64 y65 _ h66
        refine kn_then ?_
        refine kwp_seq ?_
        refine kwp_region ?_
        refine kk (n_lit (enc := encStep) [] ([] : List Step) Tryd.runUnderlying64 Tryd.sizeOf68 Tryd.zeroValue68 (fun a67 => ?_))
        refine kd (v_as) ?_
        refine kd (v_as) ?_
        refine kops_nil ?_
        refine kn_then ?_
        refine kwp_ret ?_
        obtain rfl := e_some h66
        refine r2 [⟨.slice (some a67) 0 0, 2, ([] : List Step).map encStep⟩] ?_
        exact ⟨some a67, 0, rfl, rfl⟩

set_option maxRecDepth 20000 in
theorem w_spec_TreeWay (s01a : Option Addr) (s01n : Nat) (s01c : Nat) {s0 : Survey} {from0 : Int} {to0 : Int} {r : List Step × Bool} (h : p_spec_TreeWay s0 from0 to0 = some r) :
    Triple Tryd.prog 115 [.agg #[.int .i64 s0.st, .slice s01a s01n s01c], .int .i64 from0, .int .i64 to0] [⟨.slice s01a s01n s01c, 5, s0.legs.map encLeg⟩] [] (fun v ch => ∃ (w0a : Option Addr) (w0c : Nat), v = .tuple #[.slice w0a r.1.length w0c, .bool r.2] ∧ ch = [⟨.slice w0a r.1.length w0c, 2, r.1.map encStep⟩]) := by
  refine triple_start 36 Tryd.func115 Tryd.ntmps115 rfl rfl (fun w0 => ?_)
  refine k_len (c := s01c) (fun hl1 => ?_)
  subst hl1
  unfold p_spec_TreeWay at h
  refine kwp_seq ?_
  refine kwp_region ?_
  refine kk (n_box (e := [.int .i64 s0.st, .slice s01a s0.legs.length s01c]) 2 (fun p3_2 => ?_))
  refine kops_nilchunk 2 (by decide) ?_
  refine kd (v_as) ?_
  refine kd (v_as) ?_
  refine kops_nil ?_
  refine kn_then ?_
  refine kwp_seq ?_
  refine kwp_seq ?_
  refine kwp_cutE (inv := [(1, .int .i64 from0), (2, .int .i64 to0), (3, .pointer (some p3_2))]) (fun (z : Bool) (y : Unit) => [(26, .bool z)]) (fun (z : Bool) (y : Unit) => [⟨.pointer (some p3_2), 2, [[.int .i64 s0.st, .slice s01a s0.legs.length s01c]]⟩]) (fun _ _ => True) h ?_ ?_
  · intro t6 h4
    refine kwp_region ?_
    refine kd (v_ldB Tryd.isAgg25 Tryd.sizeOf25) ?_
    obtain ⟨v8, hv7, h4⟩ := e_bind h4
    refine kk (n_call Tryd.call39 (w_spec_SurveyValid s01a s0.legs.length s01c hv7) ?_)
    rintro _ _ ⟨rfl, rfl⟩
    refine kd (v_not) ?_
    refine kd (v_mv) ?_
    refine kops_split 11 rfl (fun hb10 => ?_) (fun hb10 => ?_)
    ·
      replace h4 := e_t h4 hb10
      refine kskip hb10 ?_
      refine kskip hb10 ?_
      refine kskip hb10 ?_
      refine kskip hb10 ?_
      refine kskip hb10 ?_
      refine kskip hb10 ?_
      refine kd (v_pt hb10) ?_
      refine kd (v_mv) ?_
      refine kskip rfl ?_
      refine kskip rfl ?_
      refine kskip rfl ?_
      refine kskip rfl ?_
      refine kskip rfl ?_
      refine kskip rfl ?_
      refine kd (v_pt rfl) ?_
      refine kops_nil ?_
      refine kn_then ?_
      obtain rfl := e_some h4
      exact ⟨(), hd_mk trivial⟩
    ·
      replace h4 := e_f h4 hb10
      refine kgd hb10 (v_mv) ?_
      refine kgd hb10 (v_fb fa_25_0) ?_
      refine kgd hb10 (v_ldb Tryd.isAgg3) ?_
      refine kgd hb10 (v_sub) ?_
      obtain ⟨v12, hv11, h4⟩ := e_bind h4
      refine kgk hb10 (n_call Tryd.call88 (w_spec_l1In hv11) ?_)
      rintro _ _ ⟨rfl, rfl⟩
      refine kgd hb10 (v_not) ?_
      refine kd (v_pf hb10) ?_
      refine kd (v_mv) ?_
      refine kops_split 19 rfl (fun hb14 => ?_) (fun hb14 => ?_)
      ·
        replace h4 := e_t h4 hb14
        refine kskip hb14 ?_
        refine kskip hb14 ?_
        refine kskip hb14 ?_
        refine kskip hb14 ?_
        refine kskip hb14 ?_
        refine kskip hb14 ?_
        refine kd (v_pt hb14) ?_
        refine kops_nil ?_
        refine kn_then ?_
        obtain rfl := e_some h4
        exact ⟨(), hd_mk trivial⟩
      ·
        replace h4 := e_f h4 hb14
        refine kgd hb14 (v_mv) ?_
        refine kgd hb14 (v_fb fa_25_0) ?_
        refine kgd hb14 (v_ldb Tryd.isAgg3) ?_
        refine kgd hb14 (v_sub) ?_
        obtain ⟨v16, hv15, h4⟩ := e_bind h4
        refine kgk hb14 (n_call Tryd.call88 (w_spec_l1In hv15) ?_)
        rintro _ _ ⟨rfl, rfl⟩
        refine kgd hb14 (v_not) ?_
        refine kd (v_pf hb14) ?_
        refine kops_nil ?_
        refine kn_then ?_
        obtain rfl := e_some h4
        exact ⟨(), hd_mk trivial⟩
  · intro x3 y19 _ h20
    refine kn_then ?_
    refine kwp_cond rfl (fun hc21 => ?_) (fun hc21 => ?_)
    ·
      replace h20 := e_t h20 hc21
      refine kwp_seq ?_
      refine kwp_region ?_
      refine kk (n_lit (enc := encStep) [] ([] : List Step) Tryd.runUnderlying64 Tryd.sizeOf68 Tryd.zeroValue68 (fun a22 => ?_))
      refine kd (v_as) ?_
      refine kd (v_as) ?_
      refine kops_nil ?_
      refine kn_then ?_
      refine kwp_ret ?_
      refine kr_then ?_
      obtain rfl := e_some h20
      refine r2 [⟨.slice (some a22) 0 0, 2, ([] : List Step).map encStep⟩] ?_
      exact ⟨some a22, 0, rfl, rfl⟩
    ·
      replace h20 := e_f h20 hc21
      refine kwp_skip ?_
      refine kn_then ?_
      refine kwp_seq ?_
      obtain ⟨v24, hv23, h20⟩ := e_bind h20
      obtain ⟨⟨v27, v28⟩, hv26, h20⟩ := e_bind h20
      refine kwp_tree (.quiet 0 (.quiet 1 (.quiet 3 (.quiet 4 (.one 2 (.one 5 (.quiet 6 (.quiet 7 (.quiet 8 (.quiet 9 .stop)))))))))) [] [⟨.pointer (some p3_2), 2, [[.int .i64 s0.st, .slice s01a s0.legs.length s01c]]⟩] drawMixed (by kernel_rfl) nopan (by (repeat (first | exact Sub.refl _ | exact Sub.nil _ | refine Sub.chunk (by repeat (first | exact Pick.here | apply Pick.there | apply Pick.seg)) (by rfl) ?_ | refine Sub.seg (by repeat (first | exact PickSeg.here | exact PickSeg.all | apply PickSeg.there | apply PickSeg.seg)) ?_ | exact Sub.seg0 (by repeat (first | exact PickSeg.here | exact PickSeg.all | apply PickSeg.there | apply PickSeg.seg)) | apply Sub.assoc))) ?_
      refine kt_d rfl rfl rfl (v_ldB Tryd.isAgg25 Tryd.sizeOf25) ?_
      refine kt_d rfl rfl rfl (v_ldB Tryd.isAgg25 Tryd.sizeOf25) ?_
      refine kt_d rfl rfl rfl (v_mv) ?_
      refine kt_d rfl rfl rfl (v_mv) ?_
      refine kt_one ?_
      refine kl_k rfl rfl (n_call Tryd.call131 (w_spec_TreeLegs s01a s0.legs.length s01c hv23) ?_)
      rintro _ _ ⟨q25a, q25c, rfl, rfl⟩
      refine ⟨.inl (by (repeat (first | exact Sub.refl _ | exact Sub.nil _ | refine Sub.chunk (by repeat (first | exact Pick.here | apply Pick.there | apply Pick.seg)) (by rfl) ?_ | refine Sub.seg (by repeat (first | exact PickSeg.here | exact PickSeg.all | apply PickSeg.there | apply PickSeg.seg)) ?_ | exact Sub.seg0 (by repeat (first | exact PickSeg.here | exact PickSeg.all | apply PickSeg.there | apply PickSeg.seg)) | apply Sub.assoc))), ?_⟩
      refine kt_one ?_
      refine kl_k rfl rfl (n_call Tryd.call130 (w_spec_l1Find 64 s01a s0.legs.length s01c q25a v24.length q25c hv26) ?_)
      rintro _ _ ⟨q29a, q29c, rfl, rfl⟩
      refine ⟨.inl (by (repeat (first | exact Sub.refl _ | exact Sub.nil _ | refine Sub.chunk (by repeat (first | exact Pick.here | apply Pick.there | apply Pick.seg)) (by rfl) ?_ | refine Sub.seg (by repeat (first | exact PickSeg.here | exact PickSeg.all | apply PickSeg.there | apply PickSeg.seg)) ?_ | exact Sub.seg0 (by repeat (first | exact PickSeg.here | exact PickSeg.all | apply PickSeg.there | apply PickSeg.seg)) | apply Sub.assoc))), ?_⟩
      refine kt_d rfl rfl rfl (v_ex) ?_
      refine kt_d rfl rfl rfl (v_ex) ?_
      refine kt_d rfl rfl rfl (v_as) ?_
      refine kt_d rfl rfl rfl (v_as) ?_
      refine kt_nil ?_
      refine kn_then ?_
      refine kwp_ret ?_
      obtain rfl := e_some h20
      refine r2 [⟨.slice q29a v27.length q29c, 2, v27.map encStep⟩] ?_
      exact ⟨q29a, q29c, rfl, rfl⟩

set_option maxRecDepth 20000 in
set_option maxHeartbeats 2000000 in
theorem w_spec_StepsOk (s01a : Option Addr) (s01n : Nat) (s01c : Nat) (steps0a : Option Addr) (steps0n : Nat) (steps0c : Nat) {s0 : Survey} {steps0 : List Step} {r : Bool} (h : p_spec_StepsOk s0 steps0 = some r) :
    Triple Tryd.prog 132 [.agg #[.int .i64 s0.st, .slice s01a s01n s01c], .slice steps0a steps0n steps0c] [⟨.slice s01a s01n s01c, 5, s0.legs.map encLeg⟩, ⟨.slice steps0a steps0n steps0c, 2, steps0.map encStep⟩] [] (fun v ch => v = .bool r ∧ ch = []) := by
  refine triple_start 54 Tryd.func132 Tryd.ntmps132 rfl rfl (fun w0 => ?_)
  refine k_len (c := s01c) (fun hl1 => ?_)
  subst hl1
  refine k_len (c := steps0c) (fun hl2 => ?_)
  subst hl2
  unfold p_spec_StepsOk at h
  refine kwp_seq ?_
  refine kwp_region ?_
  refine kk (n_box (e := [.int .i64 s0.st, .slice s01a s0.legs.length s01c]) 2 (fun p2_3 => ?_))
  refine kd (v_as) ?_
  refine kops_nil ?_
  refine kn_then ?_
  refine kwp_seq ?_
  refine kwp_seq ?_
  refine kwp_region ?_
  refine kd (v_ldB Tryd.isAgg25 Tryd.sizeOf25) ?_
  obtain ⟨v5, hv4, h⟩ := e_bind h
  refine kk (n_call Tryd.call39 (w_spec_SurveyValid s01a s0.legs.length s01c hv4) ?_)
  rintro _ _ ⟨rfl, rfl⟩
  refine kd (v_not) ?_
  refine kops_nil ?_
  refine kn_then ?_
  refine kwp_cond rfl (fun hc7 => ?_) (fun hc7 => ?_)
  ·
    replace h := e_t h hc7
    refine kwp_seq ?_
    refine kwp_region ?_
    refine kd (v_as) ?_
    refine kops_nil ?_
    refine kn_then ?_
    refine kwp_ret ?_
    refine kr_then ?_
    obtain rfl := e_some h
    refine r1 [] ?_
    exact ⟨rfl, rfl⟩
  ·
    replace h := e_f h hc7
    refine kwp_skip ?_
    refine kn_then ?_
    refine kwp_seq ?_
    refine kwp_region ?_
    refine kd (v_as) ?_
    refine kops_nil ?_
    refine kn_then ?_
    refine kwp_seq ?_
    refine kwp_seq ?_
    refine kwp_region ?_
    refine kd (v_as) ?_
    refine kops_nil ?_
    refine kn_then ?_
    refine kwp_cutO (inv := []) (fun (z : Unit) (y : Unit) => []) (fun (z : Unit) (y : Unit) => []) (fun _ _ => True) h ?_ ?_
    · intro t10 h8 g9
      refine kwp_block ?_
      refine kwp_loopE (inv := [(1, .slice steps0a steps0.length steps0c), (2, .pointer (some p2_3))]) (fun (z : Int × Int) (y : Unit) => [(5, .int .i64 z.1), (6, .int .i64 z.2)]) (fun (z : Int × Int) (y : Unit) => [⟨.pointer (some p2_3), 2, [[.int .i64 s0.st, .slice s01a s0.legs.length s01c]]⟩]) (fun _ _ => True) h8 ⟨(), hd_mk trivial⟩ ?_
      intro z15 y16 b13 _ h14
      obtain ⟨at11, k12⟩ := z15
      unfold p_spec_StepsOk_L0 at h14
      refine kwp_seq ?_
      refine kwp_seq ?_
      refine kwp_region ?_
      refine kd (v_mv) ?_
      refine kd (v_mv) ?_
      refine kd (v_len Tryd.runUnderlying64) ?_
      refine kd (v_cmp) ?_
      refine kops_nil ?_
      refine kn_then ?_
      refine kwp_cond rfl (fun hc17 => ?_) (fun hc17 => ?_)
      ·
        replace h14 := e_t h14 hc17
        refine kwp_skip ?_
        refine kn_then ?_
        refine kwp_seq ?_
        refine kwp_block ?_
        refine kwp_seq ?_
        refine kwp_seq ?_
        obtain ⟨j18, ej18, nj18, h14⟩ := e_idx h14
        obtain ⟨v20, hv19, h14⟩ := e_bind h14
        refine kwp_tree (.quiet 0 (.quiet 1 (.quiet 2 (.quiet 3 (.quiet 4 (.quiet 5 (.quiet 6 (.quiet 7 (.quiet 8 (.one 9 (.quiet 10 .stop))))))))))) [] [⟨.pointer (some p2_3), 2, [[.int .i64 s0.st, .slice s01a s0.legs.length s01c]]⟩] drawMixed (by kernel_rfl) nopan (by (repeat (first | exact Sub.refl _ | exact Sub.nil _ | refine Sub.chunk (by repeat (first | exact Pick.here | apply Pick.there | apply Pick.seg)) (by rfl) ?_ | refine Sub.seg (by repeat (first | exact PickSeg.here | exact PickSeg.all | apply PickSeg.there | apply PickSeg.seg)) ?_ | exact Sub.seg0 (by repeat (first | exact PickSeg.here | exact PickSeg.all | apply PickSeg.there | apply PickSeg.seg)) | apply Sub.assoc))) ?_
        refine kt_d rfl rfl rfl (v_mv) ?_
        refine kt_d rfl rfl rfl (v_mv) ?_
        refine kt_d rfl rfl rfl (v_ia ej18 nj18 Tryd.runUnderlying64 Tryd.sizeOf68) ?_
        refine kt_d rfl rfl rfl (v_fa nj18 fa_68_0) ?_
        refine kt_d rfl rfl rfl (v_ldf nj18 Tryd.isAgg3) ?_
        refine kt_d rfl rfl rfl (v_fb fa_25_1) ?_
        refine kt_d rfl rfl rfl (v_ldb Tryd.isAgg23) ?_
        refine kt_d rfl rfl rfl (v_len Tryd.runUnderlying23) ?_
        refine kt_d rfl rfl rfl (v_sub) ?_
        refine kt_one ?_
        refine kl_k rfl rfl (n_call Tryd.call88 (w_spec_l1In hv19) ?_)
        rintro _ _ ⟨rfl, rfl⟩
        refine ⟨.inl (by (repeat (first | exact Sub.refl _ | exact Sub.nil _ | refine Sub.chunk (by repeat (first | exact Pick.here | apply Pick.there | apply Pick.seg)) (by rfl) ?_ | refine Sub.seg (by repeat (first | exact PickSeg.here | exact PickSeg.all | apply PickSeg.there | apply PickSeg.seg)) ?_ | exact Sub.seg0 (by repeat (first | exact PickSeg.here | exact PickSeg.all | apply PickSeg.there | apply PickSeg.seg)) | apply Sub.assoc))), ?_⟩
        refine kt_d rfl rfl rfl (v_not) ?_
        refine kt_nil ?_
        refine kn_then ?_
        refine kwp_cond rfl (fun hc22 => ?_) (fun hc22 => ?_)
        ·
          replace h14 := e_t h14 hc22
          refine kwp_seq ?_
          refine kwp_region ?_
          refine kd (v_as) ?_
          refine kops_nil ?_
          refine kn_then ?_
          refine kwp_ret ?_
          refine kr_then ?_
          refine kr_block ?_
          refine kr_then ?_
          refine kr_then ?_
          obtain rfl := e_some h14
          refine k_out ?_ rfl
          rintro rfl
          refine kr_block ?_
          refine kr_then ?_
          refine kr_then ?_
          obtain rfl := e_some g9
          refine r1 [] ?_
          exact ⟨rfl, rfl⟩
        ·
          replace h14 := e_f h14 hc22
          refine kwp_skip ?_
          refine kn_then ?_
          refine kwp_seq ?_
          obtain ⟨j23, ej23, nj23, h14⟩ := e_idx h14
          refine kwp_tree (.quiet 0 (.quiet 1 (.quiet 2 (.quiet 3 (.quiet 4 (.quiet 5 (.quiet 6 (.quiet 7 (.quiet 8 (.one 9 (.one 10 .stop))))))))))) [] [⟨.pointer (some p2_3), 2, [[.int .i64 s0.st, .slice s01a s0.legs.length s01c]]⟩] drawMixed (by kernel_rfl) nopan (by (repeat (first | exact Sub.refl _ | exact Sub.nil _ | refine Sub.chunk (by repeat (first | exact Pick.here | apply Pick.there | apply Pick.seg)) (by rfl) ?_ | refine Sub.seg (by repeat (first | exact PickSeg.here | exact PickSeg.all | apply PickSeg.there | apply PickSeg.seg)) ?_ | exact Sub.seg0 (by repeat (first | exact PickSeg.here | exact PickSeg.all | apply PickSeg.there | apply PickSeg.seg)) | apply Sub.assoc))) ?_
          refine kt_d rfl rfl rfl (v_fb fa_25_1) ?_
          refine kt_d rfl rfl rfl (v_ldb Tryd.isAgg23) ?_
          refine kt_d rfl rfl rfl (v_mv) ?_
          refine kt_d rfl rfl rfl (v_mv) ?_
          refine kt_d rfl rfl rfl (v_ia ej18 nj18 Tryd.runUnderlying64 Tryd.sizeOf68) ?_
          refine kt_d rfl rfl rfl (v_fa nj18 fa_68_0) ?_
          refine kt_d rfl rfl rfl (v_ldf nj18 Tryd.isAgg3) ?_
          refine kt_d rfl rfl rfl (v_ia ej23 nj23 Tryd.runUnderlying23 Tryd.sizeOf48) ?_
          refine kt_d rfl rfl rfl (v_lda (e := [_, _, _, _, _]) nj23 Tryd.isAgg48 Tryd.sizeOf48) ?_
          refine kt_one ?_
          refine kl_k rfl rfl (n_alloc (e := [.int .i64 0, .int .i64 0, .int .i64 0, .int .i64 0, .int .i64 0]) 5 Tryd.zeroValue48 (fun p7_24 => ?_))
          refine ⟨.inl (by (repeat (first | exact Sub.refl _ | exact Sub.nil _ | refine Sub.chunk (by repeat (first | exact Pick.here | apply Pick.there | apply Pick.seg)) (by rfl) ?_ | refine Sub.seg (by repeat (first | exact PickSeg.here | exact PickSeg.all | apply PickSeg.there | apply PickSeg.seg)) ?_ | exact Sub.seg0 (by repeat (first | exact PickSeg.here | exact PickSeg.all | apply PickSeg.there | apply PickSeg.seg)) | apply Sub.assoc))), ?_⟩
          refine kt_one ?_
          refine kl_k rfl rfl (s_B (e' := [.int .i64 ((gx s0.legs j23).f), .int .i64 ((gx s0.legs j23).t), .int .i64 ((gx s0.legs j23).e), .int .i64 ((gx s0.legs j23).n), .int .i64 ((gx s0.legs j23).u)]) Tryd.sizeOf48 ?_)
          refine ⟨.inl (by (repeat (first | exact Sub.refl _ | exact Sub.nil _ | refine Sub.chunk (by repeat (first | exact Pick.here | apply Pick.there | apply Pick.seg)) (by rfl) ?_ | refine Sub.seg (by repeat (first | exact PickSeg.here | exact PickSeg.all | apply PickSeg.there | apply PickSeg.seg)) ?_ | exact Sub.seg0 (by repeat (first | exact PickSeg.here | exact PickSeg.all | apply PickSeg.there | apply PickSeg.seg)) | apply Sub.assoc))), ?_⟩
          refine kt_nil ?_
          refine kn_then ?_
          refine kwp_seq ?_
          refine kwp_seq ?_
          refine kwp_region ?_
          refine kd (v_mv) ?_
          refine kd (v_mv) ?_
          refine kd (v_ia ej18 nj18 Tryd.runUnderlying64 Tryd.sizeOf68) ?_
          refine kd (v_fa nj18 fa_68_1) ?_
          refine kd (v_ldf nj18 Tryd.isAgg4) ?_
          refine kops_nil ?_
          refine kn_then ?_
          refine kwp_cutE (inv := [(1, .slice steps0a steps0.length steps0c), (2, .pointer (some p2_3)), (5, .int .i64 at11), (6, .int .i64 k12), (7, .pointer (some p7_24))]) (fun (z : Int × Int × Int × Int × Int) (y : Unit) => []) (fun (z : Int × Int × Int × Int × Int) (y : Unit) => [⟨.pointer (some p7_24), 5, [[.int .i64 z.1, .int .i64 z.2.1, .int .i64 z.2.2.1, .int .i64 z.2.2.2.1, .int .i64 z.2.2.2.2]]⟩, ⟨.pointer (some p2_3), 2, [[.int .i64 s0.st, .slice s01a s0.legs.length s01c]]⟩]) (fun _ _ => True) h14 ?_ ?_
          · intro t32 h30
            refine kwp_cond rfl (fun hc33 => ?_) (fun hc33 => ?_)
            ·
              replace h30 := e_t h30 hc33
              refine kwp_region ?_
              refine kd (v_ldB Tryd.isAgg48 Tryd.sizeOf48) ?_
              obtain ⟨v35, hv34, h30⟩ := e_bind h30
              refine kk (n_call Tryd.call86 (w_spec_LegBack hv34) ?_)
              rintro _ _ ⟨rfl, rfl⟩
              refine kk (s_B (e' := [.int .i64 v35.f, .int .i64 v35.t, .int .i64 v35.e, .int .i64 v35.n, .int .i64 v35.u]) Tryd.sizeOf48 ?_)
              refine kops_nil ?_
              refine kn_then ?_
              obtain rfl := e_some h30
              exact ⟨(), hd_mk trivial⟩
            ·
              replace h30 := e_f h30 hc33
              refine kwp_skip ?_
              refine kn_then ?_
              obtain rfl := e_some h30
              exact ⟨(), hd_mk trivial⟩
          · intro z37 y38 _ h39
            obtain ⟨f25, t26, e27, n28, u29⟩ := z37
            refine kn_then ?_
            refine kwp_seq ?_
            refine kwp_seq ?_
            refine kwp_region ?_
            refine kd (v_mv) ?_
            refine kd (v_cmp) ?_
            refine kd (v_mv) ?_
            refine kops_split 46 rfl (fun hb40 => ?_) (fun hb40 => ?_)
            ·
              replace h39 := e_t h39 hb40
              refine kgd hb40 (v_fb fa_48_0) ?_
              refine kgd hb40 (v_ldb Tryd.isAgg3) ?_
              refine kgd hb40 (v_mv) ?_
              refine kgd hb40 (v_cmp) ?_
              refine kd (v_pt hb40) ?_
              refine kops_nil ?_
              refine kn_then ?_
              refine kwp_cond rfl (fun hc41 => ?_) (fun hc41 => ?_)
              ·
                replace h39 := e_t h39 hc41
                refine kwp_seq ?_
                refine kwp_region ?_
                refine kd (v_as) ?_
                refine kops_nil ?_
                refine kn_then ?_
                refine kwp_ret ?_
                refine kr_then ?_
                refine kr_block ?_
                refine kr_then ?_
                refine kr_then ?_
                obtain rfl := e_some h39
                refine k_out ?_ rfl
                rintro rfl
                refine kr_block ?_
                refine kr_then ?_
                refine kr_then ?_
                obtain rfl := e_some g9
                refine r1 [] ?_
                exact ⟨rfl, rfl⟩
              ·
                replace h39 := e_f h39 hc41
                refine kwp_skip ?_
                refine kn_then ?_
                refine kwp_region ?_
                refine kd (v_fb fa_48_1) ?_
                refine kd (v_ldb Tryd.isAgg3) ?_
                refine kd (v_as) ?_
                refine kops_nil ?_
                refine kn_block ?_
                refine kn_then ?_
                refine kwp_region ?_
                refine kd (v_mv) ?_
                refine kd (v_add) ?_
                refine kd (v_as) ?_
                refine kops_nil ?_
                refine kn_then ?_
                obtain rfl := e_some h39
                exact ⟨_, (), rfl, hd_mk trivial⟩
            ·
              replace h39 := e_f h39 hb40
              refine kskip hb40 ?_
              refine kskip hb40 ?_
              refine kskip hb40 ?_
              refine kskip hb40 ?_
              refine kd (v_pf hb40) ?_
              refine kops_nil ?_
              refine kn_then ?_
              refine kwp_cond_f rfl rfl ?_
              refine kwp_skip ?_
              refine kn_then ?_
              refine kwp_region ?_
              refine kd (v_fb fa_48_1) ?_
              refine kd (v_ldb Tryd.isAgg3) ?_
              refine kd (v_as) ?_
              refine kops_nil ?_
              refine kn_block ?_
              refine kn_then ?_
              refine kwp_region ?_
              refine kd (v_mv) ?_
              refine kd (v_add) ?_
              refine kd (v_as) ?_
              refine kops_nil ?_
              refine kn_then ?_
              obtain rfl := e_some h39
              exact ⟨_, (), rfl, hd_mk trivial⟩
      ·
        replace h14 := e_f h14 hc17
        refine kwp_exit ?_
        refine ke_then ?_
        obtain rfl := e_some h14
        refine k_out ?_ rfl
        rintro rfl
        refine ke_block ?_
        exact ⟨_, (), rfl, hd_mk trivial⟩
    · intro z42 y43 _ h44
      refine kn_then ?_
      refine kwp_seq ?_
      refine kwp_region ?_
      refine kd (v_as) ?_
      refine kops_nil ?_
      refine kn_then ?_
      refine kwp_ret ?_
      obtain rfl := e_some h44
      refine r1 [] ?_
      exact ⟨rfl, rfl⟩

set_option maxRecDepth 20000 in
set_option maxHeartbeats 2000000 in
theorem w_spec_StepsWay (s01a : Option Addr) (s01n : Nat) (s01c : Nat) (steps0a : Option Addr) (steps0n : Nat) (steps0c : Nat) {s0 : Survey} {steps0 : List Step} {r : Way × Bool} (h : p_spec_StepsWay s0 steps0 = some r) :
    Triple Tryd.prog 117 [.agg #[.int .i64 s0.st, .slice s01a s01n s01c], .slice steps0a steps0n steps0c] [⟨.slice s01a s01n s01c, 5, s0.legs.map encLeg⟩, ⟨.slice steps0a steps0n steps0c, 2, steps0.map encStep⟩] [] (fun v ch => v = .tuple #[.agg #[.int .i64 r.1.e, .int .i64 r.1.n, .int .i64 r.1.u], .bool r.2] ∧ ch = []) := by
  refine triple_start 42 Tryd.func117 Tryd.ntmps117 rfl rfl (fun w0 => ?_)
  refine k_len (c := s01c) (fun hl1 => ?_)
  subst hl1
  refine k_len (c := steps0c) (fun hl2 => ?_)
  subst hl2
  unfold p_spec_StepsWay at h
  refine kwp_seq ?_
  refine kwp_region ?_
  refine kk (n_box (e := [.int .i64 s0.st, .slice s01a s0.legs.length s01c]) 2 (fun p2_3 => ?_))
  refine kk (n_alloc (e := [.int .i64 0, .int .i64 0, .int .i64 0]) 3 Tryd.zeroValue37 (fun p4_4 => ?_))
  refine kd (v_as) ?_
  refine kops_nil ?_
  refine kn_then ?_
  refine kwp_seq ?_
  refine kwp_region ?_
  refine kd (v_bd [] [.int .i64 0, .int .i64 0, .int .i64 0] Tryd.zeroValue37 Tryd.runUnderlying37 pl_37) ?_
  refine kk (n_alloc (e := [.int .i64 0, .int .i64 0, .int .i64 0]) 3 Tryd.zeroValue37 (fun p6_5 => ?_))
  refine kk (s_B (e' := [.int .i64 0, .int .i64 0, .int .i64 0]) Tryd.sizeOf37 ?_)
  refine kops_nil ?_
  refine kn_then ?_
  refine kwp_seq ?_
  refine kwp_seq ?_
  refine kwp_region ?_
  refine kd (v_ldB Tryd.isAgg25 Tryd.sizeOf25) ?_
  refine kd (v_mv) ?_
  obtain ⟨v7, hv6, h⟩ := e_bind h
  refine kk (n_call Tryd.call132 (w_spec_StepsOk s01a s0.legs.length s01c steps0a steps0.length steps0c hv6) ?_)
  rintro _ _ ⟨rfl, rfl⟩
  refine kd (v_not) ?_
  refine kops_nil ?_
  refine kn_then ?_
  refine kwp_cond rfl (fun hc9 => ?_) (fun hc9 => ?_)
  ·
    replace h := e_t h hc9
    refine kwp_seq ?_
    refine kwp_region ?_
    refine kd (v_ldB Tryd.isAgg37 Tryd.sizeOf37) ?_
    refine kk (s_B (e' := [.int .i64 0, .int .i64 0, .int .i64 0]) Tryd.sizeOf37 ?_)
    refine kd (v_as) ?_
    refine kops_nil ?_
    refine kn_then ?_
    refine kwp_ret ?_
    refine kr_then ?_
    obtain rfl := e_some h
    refine rc1 Tryd.isAgg37 Tryd.sizeOf37 [] ?_
    exact ⟨rfl, rfl⟩
  ·
    replace h := e_f h hc9
    refine kwp_skip ?_
    refine kn_then ?_
    refine kwp_seq ?_
    refine kwp_seq ?_
    refine kwp_region ?_
    refine kd (v_as) ?_
    refine kops_nil ?_
    refine kn_then ?_
    refine kwp_cutE (inv := [(4, .pointer (some p4_4)), (6, .pointer (some p6_5))]) (fun (z : Int × Int × Int) (y : Unit) => []) (fun (z : Int × Int × Int) (y : Unit) => [⟨.pointer (some p6_5), 3, [[.int .i64 z.1, .int .i64 z.2.1, .int .i64 z.2.2]]⟩, ⟨.pointer (some p4_4), 3, [[.int .i64 0, .int .i64 0, .int .i64 0]]⟩]) (fun _ _ => True) h ?_ ?_
    · intro t15 h13
      refine kwp_block ?_
      refine kwp_loopE (inv := [(1, .slice steps0a steps0.length steps0c), (2, .pointer (some p2_3)), (4, .pointer (some p4_4)), (6, .pointer (some p6_5))]) (fun (z : Int × Int × Int × Int) (y : Unit) => [(7, .int .i64 z.1)]) (fun (z : Int × Int × Int × Int) (y : Unit) => [⟨.pointer (some p6_5), 3, [[.int .i64 z.2.1, .int .i64 z.2.2.1, .int .i64 z.2.2.2]]⟩, ⟨.pointer (some p2_3), 2, [[.int .i64 s0.st, .slice s01a s0.legs.length s01c]]⟩, ⟨.pointer (some p4_4), 3, [[.int .i64 0, .int .i64 0, .int .i64 0]]⟩]) (fun _ _ => True) h13 ⟨(), hd_mk trivial⟩ ?_
      intro z22 y23 b20 _ h21
      obtain ⟨k16, e17, n18, u19⟩ := z22
      unfold p_spec_StepsWay_L0 at h21
      refine kwp_seq ?_
      refine kwp_seq ?_
      refine kwp_region ?_
      refine kd (v_mv) ?_
      refine kd (v_mv) ?_
      refine kd (v_len Tryd.runUnderlying64) ?_
      refine kd (v_cmp) ?_
      refine kops_nil ?_
      refine kn_then ?_
      refine kwp_cond rfl (fun hc24 => ?_) (fun hc24 => ?_)
      ·
        replace h21 := e_t h21 hc24
        refine kwp_skip ?_
        refine kn_then ?_
        refine kwp_seq ?_
        refine kwp_block ?_
        refine kwp_seq ?_
        obtain ⟨j25, ej25, nj25, h21⟩ := e_idx h21
        obtain ⟨j26, ej26, nj26, h21⟩ := e_idx h21
        obtain ⟨v28, hv27, h21⟩ := e_bind h21
        refine kwp_cutS (inv := [(1, .slice steps0a steps0.length steps0c), (2, .pointer (some p2_3)), (4, .pointer (some p4_4)), (6, .pointer (some p6_5)), (7, .int .i64 k16)]) (fun (y : Addr) => [(8, .pointer (some y))]) (fun (y : Addr) => [⟨.pointer (some p2_3), 2, [[.int .i64 s0.st, .slice s01a s0.legs.length s01c]]⟩, ⟨.pointer (some p4_4), 3, [[.int .i64 0, .int .i64 0, .int .i64 0]]⟩, ⟨.pointer (some p6_5), 3, [[.int .i64 e17, .int .i64 n18, .int .i64 u19]]⟩, ⟨.pointer (some y), 3, [[.int .i64 v28.e, .int .i64 v28.n, .int .i64 v28.u]]⟩]) (fun (y : Addr) => True) ?_ ?_
        ·
          refine kwp_tree (.quiet 0 (.quiet 1 (.quiet 2 (.quiet 3 (.quiet 4 (.quiet 5 (.quiet 6 (.quiet 7 (.quiet 8 (.two 9 (.one 10 (.one 11 .stop)) 10 (.one 9 (.one 11 .stop)))))))))))) [] [⟨.pointer (some p2_3), 2, [[.int .i64 s0.st, .slice s01a s0.legs.length s01c]]⟩] drawMixed (by kernel_rfl) nopan (by (repeat (first | exact Sub.refl _ | exact Sub.nil _ | refine Sub.chunk (by repeat (first | exact Pick.here | apply Pick.there | apply Pick.seg)) (by rfl) ?_ | refine Sub.seg (by repeat (first | exact PickSeg.here | exact PickSeg.all | apply PickSeg.there | apply PickSeg.seg)) ?_ | exact Sub.seg0 (by repeat (first | exact PickSeg.here | exact PickSeg.all | apply PickSeg.there | apply PickSeg.seg)) | apply Sub.assoc))) ?_
          refine kt_d rfl rfl rfl (v_fb fa_25_1) ?_
          refine kt_d rfl rfl rfl (v_ldb Tryd.isAgg23) ?_
          refine kt_d rfl rfl rfl (v_mv) ?_
          refine kt_d rfl rfl rfl (v_mv) ?_
          refine kt_d rfl rfl rfl (v_ia ej25 nj25 Tryd.runUnderlying64 Tryd.sizeOf68) ?_
          refine kt_d rfl rfl rfl (v_fa nj25 fa_68_0) ?_
          refine kt_d rfl rfl rfl (v_ldf nj25 Tryd.isAgg3) ?_
          refine kt_d rfl rfl rfl (v_ia ej26 nj26 Tryd.runUnderlying23 Tryd.sizeOf48) ?_
          refine kt_d rfl rfl rfl (v_lda (e := [_, _, _, _, _]) nj26 Tryd.isAgg48 Tryd.sizeOf48) ?_
          refine kt_two ?_ ?_
          ·
            refine kl_k rfl rfl (n_call Tryd.call100 (w_spec_l1Way hv27) ?_)
            rintro _ _ ⟨rfl, rfl⟩
            refine ⟨.inl (by (repeat (first | exact Sub.refl _ | exact Sub.nil _ | refine Sub.chunk (by repeat (first | exact Pick.here | apply Pick.there | apply Pick.seg)) (by rfl) ?_ | refine Sub.seg (by repeat (first | exact PickSeg.here | exact PickSeg.all | apply PickSeg.there | apply PickSeg.seg)) ?_ | exact Sub.seg0 (by repeat (first | exact PickSeg.here | exact PickSeg.all | apply PickSeg.there | apply PickSeg.seg)) | apply Sub.assoc))), ?_⟩
            refine kt_one ?_
            refine kl_k rfl rfl (n_alloc (e := [.int .i64 0, .int .i64 0, .int .i64 0]) 3 Tryd.zeroValue37 (fun p8_30 => ?_))
            refine ⟨.inl (by (repeat (first | exact Sub.refl _ | exact Sub.nil _ | refine Sub.chunk (by repeat (first | exact Pick.here | apply Pick.there | apply Pick.seg)) (by rfl) ?_ | refine Sub.seg (by repeat (first | exact PickSeg.here | exact PickSeg.all | apply PickSeg.there | apply PickSeg.seg)) ?_ | exact Sub.seg0 (by repeat (first | exact PickSeg.here | exact PickSeg.all | apply PickSeg.there | apply PickSeg.seg)) | apply Sub.assoc))), ?_⟩
            refine kt_one ?_
            refine kl_k rfl rfl (s_B (e' := [.int .i64 v28.e, .int .i64 v28.n, .int .i64 v28.u]) Tryd.sizeOf37 ?_)
            refine ⟨.inl (by (repeat (first | exact Sub.refl _ | exact Sub.nil _ | refine Sub.chunk (by repeat (first | exact Pick.here | apply Pick.there | apply Pick.seg)) (by rfl) ?_ | refine Sub.seg (by repeat (first | exact PickSeg.here | exact PickSeg.all | apply PickSeg.there | apply PickSeg.seg)) ?_ | exact Sub.seg0 (by repeat (first | exact PickSeg.here | exact PickSeg.all | apply PickSeg.there | apply PickSeg.seg)) | apply Sub.assoc))), ?_⟩
            refine kt_nil ?_
            refine kn_then ?_
            exact ⟨p8_30, hd_mk trivial⟩
          ·
            refine kl_k rfl rfl (n_alloc (e := [.int .i64 0, .int .i64 0, .int .i64 0]) 3 Tryd.zeroValue37 (fun p8_30 => ?_))
            refine ⟨.inl (by (repeat (first | exact Sub.refl _ | exact Sub.nil _ | refine Sub.chunk (by repeat (first | exact Pick.here | apply Pick.there | apply Pick.seg)) (by rfl) ?_ | refine Sub.seg (by repeat (first | exact PickSeg.here | exact PickSeg.all | apply PickSeg.there | apply PickSeg.seg)) ?_ | exact Sub.seg0 (by repeat (first | exact PickSeg.here | exact PickSeg.all | apply PickSeg.there | apply PickSeg.seg)) | apply Sub.assoc))), ?_⟩
            refine kt_one ?_
            refine kl_k rfl rfl (n_call Tryd.call100 (w_spec_l1Way hv27) ?_)
            rintro _ _ ⟨rfl, rfl⟩
            refine ⟨.inl (by (repeat (first | exact Sub.refl _ | exact Sub.nil _ | refine Sub.chunk (by repeat (first | exact Pick.here | apply Pick.there | apply Pick.seg)) (by rfl) ?_ | refine Sub.seg (by repeat (first | exact PickSeg.here | exact PickSeg.all | apply PickSeg.there | apply PickSeg.seg)) ?_ | exact Sub.seg0 (by repeat (first | exact PickSeg.here | exact PickSeg.all | apply PickSeg.there | apply PickSeg.seg)) | apply Sub.assoc))), ?_⟩
            refine kt_one ?_
            refine kl_k rfl rfl (s_B (e' := [.int .i64 v28.e, .int .i64 v28.n, .int .i64 v28.u]) Tryd.sizeOf37 ?_)
            refine ⟨.inl (by (repeat (first | exact Sub.refl _ | exact Sub.nil _ | refine Sub.chunk (by repeat (first | exact Pick.here | apply Pick.there | apply Pick.seg)) (by rfl) ?_ | refine Sub.seg (by repeat (first | exact PickSeg.here | exact PickSeg.all | apply PickSeg.there | apply PickSeg.seg)) ?_ | exact Sub.seg0 (by repeat (first | exact PickSeg.here | exact PickSeg.all | apply PickSeg.there | apply PickSeg.seg)) | apply Sub.assoc))), ?_⟩
            refine kt_nil ?_
            refine kn_then ?_
            exact ⟨p8_30, hd_mk trivial⟩
        · intro p8_30 _
          refine kn_then ?_
          refine kwp_seq ?_
          refine kwp_seq ?_
          refine kwp_region ?_
          refine kd (v_mv) ?_
          refine kd (v_mv) ?_
          refine kd (v_ia ej25 nj25 Tryd.runUnderlying64 Tryd.sizeOf68) ?_
          refine kd (v_fa nj25 fa_68_1) ?_
          refine kd (v_ldf nj25 Tryd.isAgg4) ?_
          refine kops_nil ?_
          refine kn_then ?_
          refine kwp_cond rfl (fun hc32 => ?_) (fun hc32 => ?_)
          ·
            replace h21 := e_t h21 hc32
            refine kwp_region ?_
            refine kd (v_ldB Tryd.isAgg37 Tryd.sizeOf37) ?_
            obtain ⟨v34, hv33, h21⟩ := e_bind h21
            refine kk (n_call Tryd.call99 (w_spec_WayTimes hv33) ?_)
            rintro _ _ ⟨rfl, rfl⟩
            refine kk (s_B (e' := [.int .i64 v34.e, .int .i64 v34.n, .int .i64 v34.u]) Tryd.sizeOf37 ?_)
            refine kops_nil ?_
            refine kn_then ?_
            refine kwp_region ?_
            refine kd (v_ldB Tryd.isAgg37 Tryd.sizeOf37) ?_
            refine kd (v_ldB Tryd.isAgg37 Tryd.sizeOf37) ?_
            obtain ⟨v37, hv36, h21⟩ := e_bind h21
            refine kk (n_call Tryd.call78 (w_spec_WayAdd hv36) ?_)
            rintro _ _ ⟨rfl, rfl⟩
            refine kk (s_B (e' := [.int .i64 v37.e, .int .i64 v37.n, .int .i64 v37.u]) Tryd.sizeOf37 ?_)
            refine kops_nil ?_
            refine kn_block ?_
            refine kn_then ?_
            refine kwp_region ?_
            refine kd (v_mv) ?_
            refine kd (v_add) ?_
            refine kd (v_as) ?_
            refine kops_nil ?_
            refine kn_then ?_
            obtain rfl := e_some h21
            exact ⟨_, (), rfl, hd_mk trivial⟩
          ·
            replace h21 := e_f h21 hc32
            refine kwp_skip ?_
            refine kn_then ?_
            refine kwp_region ?_
            refine kd (v_ldB Tryd.isAgg37 Tryd.sizeOf37) ?_
            refine kd (v_ldB Tryd.isAgg37 Tryd.sizeOf37) ?_
            obtain ⟨v40, hv39, h21⟩ := e_bind h21
            refine kk (n_call Tryd.call78 (w_spec_WayAdd hv39) ?_)
            rintro _ _ ⟨rfl, rfl⟩
            refine kk (s_B (e' := [.int .i64 v40.e, .int .i64 v40.n, .int .i64 v40.u]) Tryd.sizeOf37 ?_)
            refine kops_nil ?_
            refine kn_block ?_
            refine kn_then ?_
            refine kwp_region ?_
            refine kd (v_mv) ?_
            refine kd (v_add) ?_
            refine kd (v_as) ?_
            refine kops_nil ?_
            refine kn_then ?_
            obtain rfl := e_some h21
            exact ⟨_, (), rfl, hd_mk trivial⟩
      ·
        replace h21 := e_f h21 hc24
        refine kwp_exit ?_
        refine ke_then ?_
        obtain rfl := e_some h21
        refine k_out ?_ rfl
        rintro rfl
        refine ke_block ?_
        exact ⟨(), hd_mk trivial⟩
    · intro z42 y43 _ h44
      obtain ⟨e10, n11, u12⟩ := z42
      refine kn_then ?_
      refine kwp_seq ?_
      refine kwp_region ?_
      refine kd (v_ldB Tryd.isAgg37 Tryd.sizeOf37) ?_
      refine kk (s_B (e' := [.int .i64 e10, .int .i64 n11, .int .i64 u12]) Tryd.sizeOf37 ?_)
      refine kd (v_as) ?_
      refine kops_nil ?_
      refine kn_then ?_
      refine kwp_ret ?_
      obtain rfl := e_some h44
      refine rc1 Tryd.isAgg37 Tryd.sizeOf37 [] ?_
      exact ⟨rfl, rfl⟩

set_option maxRecDepth 20000 in
theorem w_spec_TreePlace (s01a : Option Addr) (s01n : Nat) (s01c : Nat) {s0 : Survey} {station0 : Int} {r : Way × Bool} (h : p_spec_TreePlace s0 station0 = some r) :
    Triple Tryd.prog 73 [.agg #[.int .i64 s0.st, .slice s01a s01n s01c], .int .i64 station0] [⟨.slice s01a s01n s01c, 5, s0.legs.map encLeg⟩] [] (fun v ch => v = .tuple #[.agg #[.int .i64 r.1.e, .int .i64 r.1.n, .int .i64 r.1.u], .bool r.2] ∧ ch = []) := by
  refine triple_start 36 Tryd.func73 Tryd.ntmps73 rfl rfl (fun w0 => ?_)
  refine k_len (c := s01c) (fun hl1 => ?_)
  subst hl1
  unfold p_spec_TreePlace at h
  refine kwp_seq ?_
  refine kwp_region ?_
  refine kk (n_box (e := [.int .i64 s0.st, .slice s01a s0.legs.length s01c]) 2 (fun p2_2 => ?_))
  refine kk (n_alloc (e := [.int .i64 0, .int .i64 0, .int .i64 0]) 3 Tryd.zeroValue37 (fun p4_3 => ?_))
  refine kd (v_as) ?_
  refine kops_nil ?_
  refine kn_then ?_
  refine kwp_seq ?_
  refine kwp_seq ?_
  refine kwp_cutE (inv := [(1, .int .i64 station0), (2, .pointer (some p2_2)), (4, .pointer (some p4_3))]) (fun (z : Bool) (y : Unit) => [(18, .bool z)]) (fun (z : Bool) (y : Unit) => [⟨.pointer (some p2_2), 2, [[.int .i64 s0.st, .slice s01a s0.legs.length s01c]]⟩, ⟨.pointer (some p4_3), 3, [[.int .i64 0, .int .i64 0, .int .i64 0]]⟩]) (fun _ _ => True) h ?_ ?_
  · intro t7 h5
    refine kwp_region ?_
    refine kd (v_ldB Tryd.isAgg25 Tryd.sizeOf25) ?_
    obtain ⟨v9, hv8, h5⟩ := e_bind h5
    refine kk (n_call Tryd.call39 (w_spec_SurveyValid s01a s0.legs.length s01c hv8) ?_)
    rintro _ _ ⟨rfl, rfl⟩
    refine kd (v_not) ?_
    refine kd (v_mv) ?_
    refine kops_split 11 rfl (fun hb11 => ?_) (fun hb11 => ?_)
    ·
      replace h5 := e_t h5 hb11
      refine kskip hb11 ?_
      refine kskip hb11 ?_
      refine kskip hb11 ?_
      refine kskip hb11 ?_
      refine kskip hb11 ?_
      refine kskip hb11 ?_
      refine kd (v_pt hb11) ?_
      refine kops_nil ?_
      refine kn_then ?_
      obtain rfl := e_some h5
      exact ⟨(), hd_mk trivial⟩
    ·
      replace h5 := e_f h5 hb11
      refine kgd hb11 (v_mv) ?_
      refine kgd hb11 (v_fb fa_25_0) ?_
      refine kgd hb11 (v_ldb Tryd.isAgg3) ?_
      refine kgd hb11 (v_sub) ?_
      obtain ⟨v13, hv12, h5⟩ := e_bind h5
      refine kgk hb11 (n_call Tryd.call88 (w_spec_l1In hv12) ?_)
      rintro _ _ ⟨rfl, rfl⟩
      refine kgd hb11 (v_not) ?_
      refine kd (v_pf hb11) ?_
      refine kops_nil ?_
      refine kn_then ?_
      obtain rfl := e_some h5
      exact ⟨(), hd_mk trivial⟩
  · intro x4 y16 _ h17
    refine kn_then ?_
    refine kwp_cond rfl (fun hc18 => ?_) (fun hc18 => ?_)
    ·
      replace h17 := e_t h17 hc18
      refine kwp_seq ?_
      refine kwp_region ?_
      refine kd (v_bd [] [.int .i64 0, .int .i64 0, .int .i64 0] Tryd.zeroValue37 Tryd.runUnderlying37 pl_37) ?_
      refine kk (s_B (e' := [.int .i64 0, .int .i64 0, .int .i64 0]) Tryd.sizeOf37 ?_)
      refine kd (v_as) ?_
      refine kops_nil ?_
      refine kn_then ?_
      refine kwp_ret ?_
      refine kr_then ?_
      obtain rfl := e_some h17
      refine rc1 Tryd.isAgg37 Tryd.sizeOf37 [] ?_
      exact ⟨rfl, rfl⟩
    ·
      replace h17 := e_f h17 hc18
      refine kwp_skip ?_
      refine kn_then ?_
      refine kwp_seq ?_
      obtain ⟨v20, hv19, h17⟩ := e_bind h17
      obtain ⟨j22, ej22, nj22, h17⟩ := e_idx h17
      obtain ⟨⟨v24, v25⟩, hv23, h17⟩ := e_bind h17
      refine kwp_tree (.quiet 0 (.quiet 1 (.quiet 3 (.quiet 6 (.one 2 (.one 4 (.one 5 (.one 7 (.quiet 8 (.quiet 9 (.quiet 10 (.quiet 11 (.quiet 12 .stop))))))))))))) [] [⟨.pointer (some p2_2), 2, [[.int .i64 s0.st, .slice s01a s0.legs.length s01c]]⟩] drawMixed (by kernel_rfl) nopan (by (repeat (first | exact Sub.refl _ | exact Sub.nil _ | refine Sub.chunk (by repeat (first | exact Pick.here | apply Pick.there | apply Pick.seg)) (by rfl) ?_ | refine Sub.seg (by repeat (first | exact PickSeg.here | exact PickSeg.all | apply PickSeg.there | apply PickSeg.seg)) ?_ | exact Sub.seg0 (by repeat (first | exact PickSeg.here | exact PickSeg.all | apply PickSeg.there | apply PickSeg.seg)) | apply Sub.assoc))) ?_
      refine kt_d rfl rfl rfl (v_ldB Tryd.isAgg25 Tryd.sizeOf25) ?_
      refine kt_d rfl rfl rfl (v_ldB Tryd.isAgg25 Tryd.sizeOf25) ?_
      refine kt_d rfl rfl rfl (v_mv) ?_
      refine kt_d rfl rfl rfl (v_mv) ?_
      refine kt_one ?_
      refine kl_k rfl rfl (n_call Tryd.call116 (w_spec_Parts s01a s0.legs.length s01c hv19) ?_)
      rintro _ _ ⟨q21a, q21c, rfl, rfl⟩
      refine ⟨.inl (by (repeat (first | exact Sub.refl _ | exact Sub.nil _ | refine Sub.chunk (by repeat (first | exact Pick.here | apply Pick.there | apply Pick.seg)) (by rfl) ?_ | refine Sub.seg (by repeat (first | exact PickSeg.here | exact PickSeg.all | apply PickSeg.there | apply PickSeg.seg)) ?_ | exact Sub.seg0 (by repeat (first | exact PickSeg.here | exact PickSeg.all | apply PickSeg.there | apply PickSeg.seg)) | apply Sub.assoc))), ?_⟩
      refine kt_dk rfl rfl rfl (by (repeat (first | exact Sub.refl _ | exact Sub.nil _ | refine Sub.chunk (by repeat (first | exact Pick.here | apply Pick.there | apply Pick.seg)) (by rfl) ?_ | refine Sub.seg (by repeat (first | exact PickSeg.here | exact PickSeg.all | apply PickSeg.there | apply PickSeg.seg)) ?_ | exact Sub.seg0 (by repeat (first | exact PickSeg.here | exact PickSeg.all | apply PickSeg.there | apply PickSeg.seg)) | apply Sub.assoc))) (v_ia ej22 nj22 Tryd.runUnderlying26 Tryd.sizeOf3) ?_
      refine kt_dk rfl rfl rfl (by (repeat (first | exact Sub.refl _ | exact Sub.nil _ | refine Sub.chunk (by repeat (first | exact Pick.here | apply Pick.there | apply Pick.seg)) (by rfl) ?_ | refine Sub.seg (by repeat (first | exact PickSeg.here | exact PickSeg.all | apply PickSeg.there | apply PickSeg.seg)) ?_ | exact Sub.seg0 (by repeat (first | exact PickSeg.here | exact PickSeg.all | apply PickSeg.there | apply PickSeg.seg)) | apply Sub.assoc))) (v_ldf nj22 Tryd.isAgg3) ?_
      refine kt_one ?_
      refine kl_k rfl rfl (n_call Tryd.call115 (w_spec_TreeWay s01a s0.legs.length s01c hv23) ?_)
      rintro _ _ ⟨q26a, q26c, rfl, rfl⟩
      refine ⟨.inl (by (repeat (first | exact Sub.refl _ | exact Sub.nil _ | refine Sub.chunk (by repeat (first | exact Pick.here | apply Pick.there | apply Pick.seg)) (by rfl) ?_ | refine Sub.seg (by repeat (first | exact PickSeg.here | exact PickSeg.all | apply PickSeg.there | apply PickSeg.seg)) ?_ | exact Sub.seg0 (by repeat (first | exact PickSeg.here | exact PickSeg.all | apply PickSeg.there | apply PickSeg.seg)) | apply Sub.assoc))), ?_⟩
      refine kt_d rfl rfl rfl (v_mv) ?_
      refine kt_d rfl rfl rfl (v_ex) ?_
      refine kt_d rfl rfl rfl (v_ex) ?_
      refine kt_d rfl rfl rfl (v_as) ?_
      refine kt_d rfl rfl rfl (v_as) ?_
      refine kt_nil ?_
      refine kn_then ?_
      refine kwp_seq ?_
      refine kwp_region ?_
      refine kd (v_ldB Tryd.isAgg25 Tryd.sizeOf25) ?_
      refine kd (v_mv) ?_
      obtain ⟨⟨v29, v30⟩, hv28, h17⟩ := e_bind h17
      refine kk (n_call Tryd.call117 (w_spec_StepsWay s01a s0.legs.length s01c q26a v24.length q26c hv28) ?_)
      rintro _ _ ⟨rfl, rfl⟩
      refine kd (v_ex) ?_
      refine kd (v_ex) ?_
      refine kk (s_B (e' := [.int .i64 v29.e, .int .i64 v29.n, .int .i64 v29.u]) Tryd.sizeOf37 ?_)
      refine kd (v_as) ?_
      refine kops_nil ?_
      refine kn_then ?_
      refine kwp_ret ?_
      obtain rfl := e_some h17
      refine rc1 Tryd.isAgg37 Tryd.sizeOf37 [] ?_
      exact ⟨rfl, rfl⟩

set_option maxRecDepth 20000 in
theorem w_impl_Parts (s01a : Option Addr) (s01n : Nat) (s01c : Nat) {s0 : Survey} {r : List Int} (h : p_impl_Parts s0 = some r) :
    Triple Tryd.prog 83 [.agg #[.int .i64 s0.st, .slice s01a s01n s01c]] [⟨.slice s01a s01n s01c, 5, s0.legs.map encLeg⟩] [] (fun v ch => ∃ (w0a : Option Addr) (w0c : Nat), v = .slice w0a r.length w0c ∧ ch = [⟨.slice w0a r.length w0c, 1, r.map encI⟩]) := by
  refine triple_start 27 Tryd.func83 Tryd.ntmps83 rfl rfl (fun w0 => ?_)
  refine k_len (c := s01c) (fun hl1 => ?_)
  subst hl1
  unfold p_impl_Parts at h
  refine kwp_seq ?_
  refine kwp_region ?_
  refine kk (n_box (e := [.int .i64 s0.st, .slice s01a s0.legs.length s01c]) 2 (fun p1_2 => ?_))
  refine kops_nilchunk 1 (by decide) ?_
  refine kd (v_as) ?_
  refine kops_nil ?_
  refine kn_then ?_
  refine kwp_seq ?_
  refine kwp_seq ?_
  refine kwp_region ?_
  refine kd (v_ldB Tryd.isAgg25 Tryd.sizeOf25) ?_
  obtain ⟨v4, hv3, h⟩ := e_bind h
  refine kk (n_call Tryd.call29 (w_impl_SurveyValid s01a s0.legs.length s01c hv3) ?_)
  rintro _ _ ⟨rfl, rfl⟩
  refine kd (v_not) ?_
  refine kops_nil ?_
  refine kn_then ?_
  refine kwp_cond rfl (fun hc6 => ?_) (fun hc6 => ?_)
  ·
    replace h := e_t h hc6
    refine kwp_seq ?_
    refine kwp_region ?_
    refine kops_nilchunk 1 (by decide) ?_
    refine kd (v_as) ?_
    refine kops_nil ?_
    refine kn_then ?_
    refine kwp_ret ?_
    refine kr_then ?_
    obtain rfl := e_some h
    refine r1 [⟨.slice none 0 0, 1, ([] : List Int).map encI⟩] ?_
    exact ⟨none, 0, rfl, rfl⟩
  ·
    replace h := e_f h hc6
    refine kwp_skip ?_
    refine kn_then ?_
    refine kwp_seq ?_
    refine kwp_region ?_
    refine kd (v_fb fa_25_0) ?_
    refine kd (v_ldb Tryd.isAgg3) ?_
    obtain ⟨v8, hv7, h⟩ := e_bind h
    refine kk (n_call Tryd.call97 (w_impl_ownParts hv7) ?_)
    rintro _ _ ⟨q9a, q9c, rfl, rfl⟩
    refine kd (v_as) ?_
    refine kops_nil ?_
    refine kn_then ?_
    refine kwp_seq ?_
    refine kwp_seq ?_
    refine kwp_region ?_
    refine kd (v_fb fa_25_1) ?_
    refine kd (v_ldb Tryd.isAgg23) ?_
    refine kd (v_len Tryd.runUnderlying23) ?_
    refine kd (v_mv) ?_
    refine kops_nil ?_
    refine kn_then ?_
    refine kwp_cutE (inv := [(3, .slice q9a v8.length q9c)]) (fun (z : List Int) (y : Unit) => []) (fun (z : List Int) (y : Unit) => [⟨.slice q9a v8.length q9c, 1, z.map encI⟩]) (fun _ _ => True) h ?_ ?_
    · intro t13 h11
      refine kwp_block ?_
      refine kwp_loopE (inv := [(3, .slice q9a v8.length q9c), (13, .slice s01a s0.legs.length s01c), (14, .int .i64 ((s0.legs.length : Nat) : Int))]) (fun (z : Int × List Int) (y : Unit) => [(15, .int .i64 z.1)]) (fun (z : Int × List Int) (y : Unit) => [⟨.slice q9a v8.length q9c, 1, z.2.map encI⟩]) (fun _ _ => True) h11 ⟨(), hd_mk trivial⟩ ?_
      intro z18 y19 b16 _ h17
      obtain ⟨x14, l15⟩ := z18
      unfold p_impl_Parts_L0 at h17
      refine kwp_seq ?_
      refine kwp_region ?_
      refine kd (v_cmp) ?_
      refine kops_nil ?_
      refine kn_then ?_
      refine kwp_seq ?_
      refine kwp_cond rfl (fun hc20 => ?_) (fun hc20 => ?_)
      ·
        replace h17 := e_t h17 hc20
        refine kwp_skip ?_
        refine kn_then ?_
        refine kwp_seq ?_
        refine kwp_block ?_
        refine kwp_seq ?_
        refine kwp_region ?_
        obtain ⟨j21, ej21, nj21, h17⟩ := e_idx h17
        refine kd (v_ia ej21 nj21 Tryd.runUnderlying23 Tryd.sizeOf48) ?_
        refine kd (v_lda (e := [_, _, _, _, _]) nj21 Tryd.isAgg48 Tryd.sizeOf48) ?_
        refine kk (n_alloc (e := [.int .i64 0, .int .i64 0, .int .i64 0, .int .i64 0, .int .i64 0]) 5 Tryd.zeroValue48 (fun p5_22 => ?_))
        refine kk (s_B (e' := [.int .i64 ((gx s0.legs j21).f), .int .i64 ((gx s0.legs j21).t), .int .i64 ((gx s0.legs j21).e), .int .i64 ((gx s0.legs j21).n), .int .i64 ((gx s0.legs j21).u)]) Tryd.sizeOf48 ?_)
        refine kops_nil ?_
        refine kn_then ?_
        refine kwp_region ?_
        refine kd (v_mv) ?_
        refine kd (v_fb fa_48_0) ?_
        refine kd (v_ldb Tryd.isAgg3) ?_
        refine kd (v_fb fa_48_1) ?_
        refine kd (v_ldb Tryd.isAgg3) ?_
        obtain ⟨⟨v24, v25⟩, hv23, h17⟩ := e_bind h17
        refine kk (n_call Tryd.call98 (w_impl_joinParts q9a v8.length q9c hv23) ?_)
        rintro _ _ ⟨rfl, rfl⟩
        refine kops_nil ?_
        refine kn_block ?_
        refine kn_then ?_
        refine kwp_region ?_
        refine kd (v_add) ?_
        refine kd (v_mv) ?_
        refine kops_nil ?_
        refine kn_then ?_
        obtain rfl := e_some h17
        exact ⟨_, (), rfl, hd_mk trivial⟩
      ·
        replace h17 := e_f h17 hc20
        refine kwp_exit ?_
        refine ke_then ?_
        obtain rfl := e_some h17
        refine k_out ?_ rfl
        rintro rfl
        refine ke_block ?_
        exact ⟨(), hd_mk trivial⟩
    · intro l10 y28 _ h29
      refine kn_then ?_
      refine kwp_seq ?_
      refine kwp_region ?_
      refine kd (v_mv) ?_
      refine kd (v_as) ?_
      refine kops_nil ?_
      refine kn_then ?_
      refine k_len (c := q9c) (fun hl30 => ?_)
      refine kwp_ret ?_
      obtain rfl := e_some h29
      refine r1 [⟨.slice q9a v8.length q9c, 1, l10.map encI⟩] ?_
      exact ⟨q9a, q9c, by first | rfl | (rw [← hl30] <;> rfl) | ((try dsimp only); rw [← hl30] <;> rfl) | (simp; done), by first | rfl | (rw [← hl30] <;> rfl) | ((try dsimp only); rw [← hl30] <;> rfl) | (simp; done)⟩

set_option maxRecDepth 20000 in
theorem w_impl_PartsMany (s01a : Option Addr) (s01n : Nat) (s01c : Nat) {s0 : Survey} {r : Int} (h : p_impl_PartsMany s0 = some r) :
    Triple Tryd.prog 30 [.agg #[.int .i64 s0.st, .slice s01a s01n s01c]] [⟨.slice s01a s01n s01c, 5, s0.legs.map encLeg⟩] [] (fun v ch => v = .int .i64 r ∧ ch = []) := by
  refine triple_start 9 Tryd.func30 Tryd.ntmps30 rfl rfl (fun w0 => ?_)
  refine k_len (c := s01c) (fun hl1 => ?_)
  subst hl1
  unfold p_impl_PartsMany at h
  refine kwp_seq ?_
  refine kwp_region ?_
  refine kk (n_box (e := [.int .i64 s0.st, .slice s01a s0.legs.length s01c]) 2 (fun p1_2 => ?_))
  refine kd (v_as) ?_
  refine kops_nil ?_
  refine kn_then ?_
  refine kwp_seq ?_
  refine kwp_seq ?_
  refine kwp_region ?_
  refine kd (v_ldB Tryd.isAgg25 Tryd.sizeOf25) ?_
  obtain ⟨v4, hv3, h⟩ := e_bind h
  refine kk (n_call Tryd.call29 (w_impl_SurveyValid s01a s0.legs.length s01c hv3) ?_)
  rintro _ _ ⟨rfl, rfl⟩
  refine kd (v_not) ?_
  refine kops_nil ?_
  refine kn_then ?_
  refine kwp_cond rfl (fun hc6 => ?_) (fun hc6 => ?_)
  ·
    replace h := e_t h hc6
    refine kwp_seq ?_
    refine kwp_region ?_
    refine kd (v_as) ?_
    refine kops_nil ?_
    refine kn_then ?_
    refine kwp_ret ?_
    refine kr_then ?_
    obtain rfl := e_some h
    refine r1 [] ?_
    exact ⟨rfl, rfl⟩
  ·
    replace h := e_f h hc6
    refine kwp_skip ?_
    refine kn_then ?_
    refine kwp_seq ?_
    refine kwp_region ?_
    refine kd (v_ldB Tryd.isAgg25 Tryd.sizeOf25) ?_
    obtain ⟨v8, hv7, h⟩ := e_bind h
    refine kk (n_call Tryd.call83 (w_impl_Parts s01a s0.legs.length s01c hv7) ?_)
    rintro _ _ ⟨q9a, q9c, rfl, rfl⟩
    obtain ⟨v11, hv10, h⟩ := e_bind h
    refine kk (n_call Tryd.call82 (w_impl_countParts q9a v8.length q9c hv10) ?_)
    rintro _ _ ⟨rfl, rfl⟩
    refine kd (v_as) ?_
    refine kops_nil ?_
    refine kn_then ?_
    refine kwp_ret ?_
    obtain rfl := e_some h
    refine r1 [] ?_
    exact ⟨rfl, rfl⟩

set_option maxRecDepth 20000 in
theorem w_impl_TreeLegs (s01a : Option Addr) (s01n : Nat) (s01c : Nat) {s0 : Survey} {r : List Int} (h : p_impl_TreeLegs s0 = some r) :
    Triple Tryd.prog 49 [.agg #[.int .i64 s0.st, .slice s01a s01n s01c]] [⟨.slice s01a s01n s01c, 5, s0.legs.map encLeg⟩] [] (fun v ch => ∃ (w0a : Option Addr) (w0c : Nat), v = .slice w0a r.length w0c ∧ ch = [⟨.slice w0a r.length w0c, 1, r.map encI⟩]) := by
  refine triple_start 33 Tryd.func49 Tryd.ntmps49 rfl rfl (fun w0 => ?_)
  refine k_len (c := s01c) (fun hl1 => ?_)
  subst hl1
  unfold p_impl_TreeLegs at h
  refine kwp_seq ?_
  refine kwp_region ?_
  refine kk (n_box (e := [.int .i64 s0.st, .slice s01a s0.legs.length s01c]) 2 (fun p1_2 => ?_))
  refine kops_nilchunk 1 (by decide) ?_
  refine kd (v_as) ?_
  refine kops_nil ?_
  refine kn_then ?_
  refine kwp_seq ?_
  refine kwp_seq ?_
  refine kwp_region ?_
  refine kd (v_ldB Tryd.isAgg25 Tryd.sizeOf25) ?_
  obtain ⟨v4, hv3, h⟩ := e_bind h
  refine kk (n_call Tryd.call29 (w_impl_SurveyValid s01a s0.legs.length s01c hv3) ?_)
  rintro _ _ ⟨rfl, rfl⟩
  refine kd (v_not) ?_
  refine kops_nil ?_
  refine kn_then ?_
  refine kwp_cond rfl (fun hc6 => ?_) (fun hc6 => ?_)
  ·
    replace h := e_t h hc6
    refine kwp_seq ?_
    refine kwp_region ?_
    refine kops_nilchunk 1 (by decide) ?_
    refine kd (v_as) ?_
    refine kops_nil ?_
    refine kn_then ?_
    refine kwp_ret ?_
    refine kr_then ?_
    obtain rfl := e_some h
    refine r1 [⟨.slice none 0 0, 1, ([] : List Int).map encI⟩] ?_
    exact ⟨none, 0, rfl, rfl⟩
  ·
    replace h := e_f h hc6
    refine kwp_skip ?_
    refine kn_then ?_
    refine kwp_seq ?_
    refine kwp_region ?_
    refine kd (v_fb fa_25_0) ?_
    refine kd (v_ldb Tryd.isAgg3) ?_
    obtain ⟨v8, hv7, h⟩ := e_bind h
    refine kk (n_call Tryd.call97 (w_impl_ownParts hv7) ?_)
    rintro _ _ ⟨q9a, q9c, rfl, rfl⟩
    refine kd (v_as) ?_
    refine kops_nil ?_
    refine kn_then ?_
    refine kwp_seq ?_
    refine kwp_region ?_
    refine kops_nilchunk 1 (by decide) ?_
    refine kd (v_as) ?_
    refine kops_nil ?_
    refine kn_then ?_
    refine kwp_seq ?_
    refine kwp_seq ?_
    refine kwp_region ?_
    refine kd (v_fb fa_25_1) ?_
    refine kd (v_ldb Tryd.isAgg23) ?_
    refine kd (v_len Tryd.runUnderlying23) ?_
    refine kd (v_mv) ?_
    refine kops_nil ?_
    refine kn_then ?_
    refine kwp_cutE (inv := []) (fun (z : List Int) (y : Option Addr × Nat × Nat) => [(4, .slice y.1 y.2.1 y.2.2)]) (fun (z : List Int) (y : Option Addr × Nat × Nat) => [⟨.slice y.1 y.2.1 y.2.2, 1, z.map encI⟩]) (fun _ _ => True) h ?_ ?_
    · intro t13 h11
      refine kwp_block ?_
      refine kwp_loopE (inv := [(3, .slice q9a v8.length q9c), (14, .slice s01a s0.legs.length s01c), (15, .int .i64 ((s0.legs.length : Nat) : Int))]) (fun (z : List Int × Int × List Int) (y : Option Addr × Nat × Nat) => [(4, .slice y.1 y.2.1 y.2.2), (16, .int .i64 z.2.1)]) (fun (z : List Int × Int × List Int) (y : Option Addr × Nat × Nat) => [⟨.slice q9a v8.length q9c, 1, z.2.2.map encI⟩, ⟨.slice y.1 y.2.1 y.2.2, 1, z.1.map encI⟩]) (fun _ _ => True) h11 ⟨(none, 0, 0), hd_mk trivial⟩ ?_
      intro z19 y20 b17 _ h18
      obtain ⟨tree14, x15, l16⟩ := z19
      obtain ⟨tree14a, tree14n, tree14c⟩ := y20
      refine k_len (c := tree14c) (fun hl21 => ?_)
      subst hl21
      unfold p_impl_TreeLegs_L0 at h18
      refine kwp_seq ?_
      refine kwp_region ?_
      refine kd (v_cmp) ?_
      refine kops_nil ?_
      refine kn_then ?_
      refine kwp_seq ?_
      refine kwp_cond rfl (fun hc22 => ?_) (fun hc22 => ?_)
      ·
        replace h18 := e_t h18 hc22
        refine kwp_skip ?_
        refine kn_then ?_
        refine kwp_seq ?_
        refine kwp_block ?_
        refine kwp_seq ?_
        refine kwp_region ?_
        refine kd (v_mv) ?_
        obtain ⟨j23, ej23, nj23, h18⟩ := e_idx h18
        refine kd (v_ia ej23 nj23 Tryd.runUnderlying23 Tryd.sizeOf48) ?_
        refine kd (v_lda (e := [_, _, _, _, _]) nj23 Tryd.isAgg48 Tryd.sizeOf48) ?_
        refine kk (n_alloc (e := [.int .i64 0, .int .i64 0, .int .i64 0, .int .i64 0, .int .i64 0]) 5 Tryd.zeroValue48 (fun p6_24 => ?_))
        refine kd (v_as) ?_
        refine kk (s_B (e' := [.int .i64 ((gx s0.legs j23).f), .int .i64 ((gx s0.legs j23).t), .int .i64 ((gx s0.legs j23).e), .int .i64 ((gx s0.legs j23).n), .int .i64 ((gx s0.legs j23).u)]) Tryd.sizeOf48 ?_)
        refine kops_nil ?_
        refine kn_then ?_
        refine kwp_seq ?_
        refine kwp_region ?_
        refine kd (v_mv) ?_
        refine kd (v_fb fa_48_0) ?_
        refine kd (v_ldb Tryd.isAgg3) ?_
        refine kd (v_fb fa_48_1) ?_
        refine kd (v_ldb Tryd.isAgg3) ?_
        obtain ⟨⟨v26, v27⟩, hv25, h18⟩ := e_bind h18
        refine kk (n_call Tryd.call98 (w_impl_joinParts q9a v8.length q9c hv25) ?_)
        rintro _ _ ⟨rfl, rfl⟩
        refine kops_nil ?_
        refine kn_then ?_
        refine kwp_cond rfl (fun hc29 => ?_) (fun hc29 => ?_)
        ·
          replace h18 := e_t h18 hc29
          refine kwp_region ?_
          refine kd (v_mv) ?_
          refine kd (v_mv) ?_
          refine kk (n_lit (enc := encI) [_] ([x15] : List Int) Tryd.runUnderlying26 Tryd.sizeOf3 Tryd.zeroValue3 (fun a30 => ?_))
          obtain ⟨hz31, h18⟩ := e_need h18
          refine kk (n_app (enc := encI) ok_encI hz31 Tryd.underlying26 Tryd.type3 (by decide) (fun a32 c33 => ?_))
          refine kd (v_as) ?_
          refine kops_nil ?_
          refine kn_block ?_
          refine kn_then ?_
          refine kwp_region ?_
          refine kd (v_add) ?_
          refine kd (v_mv) ?_
          refine kops_nil ?_
          refine kn_then ?_
          obtain rfl := e_some h18
          exact ⟨_, (a32, (tree14 ++ ([x15] : List Int)).length, c33), rfl, hd_mk trivial⟩
        ·
          replace h18 := e_f h18 hc29
          refine kwp_skip ?_
          refine kn_block ?_
          refine kn_then ?_
          refine kwp_region ?_
          refine kd (v_add) ?_
          refine kd (v_mv) ?_
          refine kops_nil ?_
          refine kn_then ?_
          obtain rfl := e_some h18
          exact ⟨_, (tree14a, tree14.length, tree14c), rfl, hd_mk trivial⟩
      ·
        replace h18 := e_f h18 hc22
        refine kwp_exit ?_
        refine ke_then ?_
        obtain rfl := e_some h18
        refine k_out ?_ rfl
        rintro rfl
        refine ke_block ?_
        exact ⟨(tree14a, tree14.length, tree14c), hd_mk trivial⟩
    · intro tree10 y35 _ h36
      obtain ⟨tree10a, tree10n, tree10c⟩ := y35
      refine k_len (c := tree10c) (fun hl37 => ?_)
      subst hl37
      refine kwp_seq ?_
      refine kwp_region ?_
      refine kd (v_mv) ?_
      refine kd (v_as) ?_
      refine kops_nil ?_
      refine kn_then ?_
      refine kwp_ret ?_
      obtain rfl := e_some h36
      refine r1 [⟨.slice tree10a (tree10.length) tree10c, 1, tree10.map encI⟩] ?_
      exact ⟨tree10a, tree10c, rfl, rfl⟩

end Go.Proofs.YtnibfmofkamjoaaDoor
