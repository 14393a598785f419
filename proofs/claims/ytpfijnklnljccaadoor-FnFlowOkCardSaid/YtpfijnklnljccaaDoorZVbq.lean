/- What the plain programs return, the functions of the program return; no condition. -/
import Derived.Test.YtpfijnklnljccaaDoorZQ
import Derived.Test.YtpfijnklnljccaaDoorZFa
import Derived.Test.YtpfijnklnljccaaDoorZVbp
namespace Go.Proofs.YtpfijnklnljccaaDoor
open Go
set_option linter.unusedVariables false
set_option linter.unusedSimpArgs false

set_option maxRecDepth 20000 in
theorem w_spec_TreeLegs (s01a : Option Addr) (s01n : Nat) (s01c : Nat) {s0 : Survey} {r : List Int} (h : p_spec_TreeLegs s0 = some r) :
    Triple Tryd.prog 111 [.agg #[.int .i64 s0.st, .slice s01a s01n s01c]] [⟨.slice s01a s01n s01c, 5, s0.legs.map encLeg⟩] [] (fun v ch => ∃ (w0a : Option Addr) (w0c : Nat), v = .slice w0a r.length w0c ∧ ch = [⟨.slice w0a r.length w0c, 1, r.map encI⟩]) := by
  refine triple_start 45 Tryd.func111 Tryd.ntmps111 rfl rfl (fun w0 => ?_)
  refine k_len (c := s01c) (fun hl1 => ?_)
  subst hl1
  unfold p_spec_TreeLegs at h
  refine kwp_seq ?_
  refine kwp_region ?_
  refine kk (n_box (e := [.int .i64 s0.st, .slice s01a s0.legs.length s01c]) 2 (fun p1_2 => ?_))
  refine kops_nilchunk 1 (by decide) ?_
  refine kd (v_as) ?_
  refine kops_nil ?_
  refine kn_then ?_
  refine kwp_seq ?_
  refine kwp_region ?_
  refine kk (n_lit (enc := encI) [] ([] : List Int) Tryd.runUnderlying46 Tryd.sizeOf3 Tryd.zeroValue3 (fun a3 => ?_))
  refine kd (v_as) ?_
  refine kops_nil ?_
  refine kn_then ?_
  refine kwp_seq ?_
  refine kwp_seq ?_
  refine kwp_region ?_
  refine kd (v_as) ?_
  refine kops_nil ?_
  refine kn_then ?_
  refine kwp_cutE (inv := []) (fun (z : List Int) (y : Option Addr × Nat × Nat) => [(3, .slice y.1 y.2.1 y.2.2)]) (fun (z : List Int) (y : Option Addr × Nat × Nat) => [⟨.slice y.1 y.2.1 y.2.2, 1, z.map encI⟩]) (fun _ _ => True) h ?_ ?_
  · intro t7 h5
    refine kwp_block ?_
    refine kwp_loopE (inv := [(1, .pointer (some p1_2))]) (fun (z : List Int × Int) (y : Option Addr × Nat × Nat) => [(3, .slice y.1 y.2.1 y.2.2), (4, .int .i64 z.2)]) (fun (z : List Int × Int) (y : Option Addr × Nat × Nat) => [⟨.slice y.1 y.2.1 y.2.2, 1, z.1.map encI⟩, ⟨.pointer (some p1_2), 2, [[.int .i64 s0.st, .slice s01a s0.legs.length s01c]]⟩]) (fun _ _ => True) h5 ⟨(some a3, 0, 0), hd_mk trivial⟩ ?_
    intro z12 y13 b10 _ h11
    obtain ⟨out8, k9⟩ := z12
    obtain ⟨out8a, out8n, out8c⟩ := y13
    refine k_len (c := out8c) (fun hl14 => ?_)
    subst hl14
    unfold p_spec_TreeLegs_L0 at h11
    refine kwp_seq ?_
    refine kwp_seq ?_
    refine kwp_cutE (inv := [(1, .pointer (some p1_2)), (3, .slice out8a out8.length out8c), (4, .int .i64 k9)]) (fun (z : Bool) (y : Unit) => [(15, .bool z)]) (fun (z : Bool) (y : Unit) => [⟨.pointer (some p1_2), 2, [[.int .i64 s0.st, .slice s01a s0.legs.length s01c]]⟩, ⟨.slice out8a (out8.length) out8c, 1, out8.map encI⟩]) (fun _ _ => True) h11 ?_ ?_
    · intro t18 h16
      refine kwp_region ?_
      refine kd (v_mv) ?_
      refine kd (v_fb fa_53_1) ?_
      refine kd (v_ldb Tryd.isAgg51) ?_
      refine kd (v_len Tryd.runUnderlying51) ?_
      refine kd (v_cmp) ?_
      refine kd (v_mv) ?_
      refine kops_split 12 rfl (fun hb19 => ?_) (fun hb19 => ?_)
      ·
        replace h16 := e_t h16 hb19
        refine kgd hb19 (v_ldB Tryd.isAgg53 Tryd.sizeOf53) ?_
        obtain ⟨v21, hv20, h16⟩ := e_bind h16
        refine kgk hb19 (n_call Tryd.call98 (w_spec_SurveyValid s01a s0.legs.length s01c hv20) ?_)
        rintro _ _ ⟨rfl, rfl⟩
        refine kd (v_pt hb19) ?_
        refine kops_nil ?_
        refine kn_then ?_
        obtain rfl := e_some h16
        exact ⟨(), hd_mk trivial⟩
      ·
        replace h16 := e_f h16 hb19
        refine kskip hb19 ?_
        refine kskip hb19 ?_
        refine kd (v_pf hb19) ?_
        refine kops_nil ?_
        refine kn_then ?_
        obtain rfl := e_some h16
        exact ⟨(), hd_mk trivial⟩
    · intro x15 y24 _ h25
      refine kn_then ?_
      refine kwp_cond rfl (fun hc26 => ?_) (fun hc26 => ?_)
      ·
        replace h25 := e_t h25 hc26
        refine kwp_skip ?_
        refine kn_then ?_
        refine kwp_seq ?_
        refine kwp_block ?_
        refine kwp_seq ?_
        refine kwp_region ?_
        refine kd (v_ldB Tryd.isAgg53 Tryd.sizeOf53) ?_
        refine kd (v_mv) ?_
        obtain ⟨v28, hv27, h25⟩ := e_bind h25
        refine kk (n_call Tryd.call113 (w_spec_l1Parts s01a s0.legs.length s01c out8a out8.length out8c hv27) ?_)
        rintro _ _ ⟨q29a, q29c, rfl, rfl⟩
        refine kd (v_as) ?_
        refine kops_nil ?_
        refine kn_then ?_
        refine kwp_seq ?_
        obtain ⟨j30, ej30, nj30, h25⟩ := e_idx h25
        obtain ⟨j31, ej31, nj31, h25⟩ := e_idx h25
        obtain ⟨j32, ej32, nj32, h25⟩ := e_idx h25
        refine kwp_tree (.quiet 0 (.quiet 1 (.quiet 2 (.quiet 3 (.quiet 4 (.quiet 5 (.quiet 6 (.quiet 7 (.quiet 8 (.quiet 9 (.quiet 10 (.quiet 11 (.quiet 12 (.quiet 13 (.quiet 14 (.quiet 15 (.quiet 16 (.quiet 17 (.quiet 18 .stop))))))))))))))))))) [] [⟨.pointer (some p1_2), 2, [[.int .i64 s0.st, .slice s01a s0.legs.length s01c]]⟩, ⟨.slice q29a v28.length q29c, 1, v28.map encI⟩] drawMixed (by kernel_rfl) nopan (by (repeat (first | exact Sub.refl _ | exact Sub.nil _ | refine Sub.chunk (by repeat (first | exact Pick.here | apply Pick.there | apply Pick.seg)) (by rfl) ?_ | refine Sub.seg (by repeat (first | exact PickSeg.here | exact PickSeg.all | apply PickSeg.there | apply PickSeg.seg)) ?_ | exact Sub.seg0 (by repeat (first | exact PickSeg.here | exact PickSeg.all | apply PickSeg.there | apply PickSeg.seg)) | apply Sub.assoc))) ?_
        refine kt_d rfl rfl rfl (v_mv) ?_
        refine kt_d rfl rfl rfl (v_fb fa_53_1) ?_
        refine kt_d rfl rfl rfl (v_ldb Tryd.isAgg51) ?_
        refine kt_d rfl rfl rfl (v_mv) ?_
        refine kt_d rfl rfl rfl (v_ia ej30 nj30 Tryd.runUnderlying51 Tryd.sizeOf55) ?_
        refine kt_d rfl rfl rfl (v_fa nj30 fa_55_0) ?_
        refine kt_d rfl rfl rfl (v_ldf nj30 Tryd.isAgg3) ?_
        refine kt_d rfl rfl rfl (v_ia ej31 nj31 Tryd.runUnderlying46 Tryd.sizeOf3) ?_
        refine kt_d rfl rfl rfl (v_ldf nj31 Tryd.isAgg3) ?_
        refine kt_d rfl rfl rfl (v_mv) ?_
        refine kt_d rfl rfl rfl (v_fb fa_53_1) ?_
        refine kt_d rfl rfl rfl (v_ldb Tryd.isAgg51) ?_
        refine kt_d rfl rfl rfl (v_mv) ?_
        refine kt_d rfl rfl rfl (v_ia ej30 nj30 Tryd.runUnderlying51 Tryd.sizeOf55) ?_
        refine kt_d rfl rfl rfl (v_fa nj30 fa_55_1) ?_
        refine kt_d rfl rfl rfl (v_ldf nj30 Tryd.isAgg3) ?_
        refine kt_d rfl rfl rfl (v_ia ej32 nj32 Tryd.runUnderlying46 Tryd.sizeOf3) ?_
        refine kt_d rfl rfl rfl (v_ldf nj32 Tryd.isAgg3) ?_
        refine kt_d rfl rfl rfl (v_cmp) ?_
        refine kt_nil ?_
        refine kn_then ?_
        refine kwp_cond rfl (fun hc33 => ?_) (fun hc33 => ?_)
        ·
          replace h25 := e_t h25 hc33
          refine kwp_region ?_
          refine kd (v_mv) ?_
          refine kd (v_mv) ?_
          refine kk (n_lit (enc := encI) [_] ([k9] : List Int) Tryd.runUnderlying46 Tryd.sizeOf3 Tryd.zeroValue3 (fun a34 => ?_))
          obtain ⟨hz35, h25⟩ := e_need h25
          refine kk (n_app (enc := encI) ok_encI hz35 Tryd.underlying46 Tryd.type3 (by decide) (fun a36 c37 => ?_))
          refine kd (v_as) ?_
          refine kops_nil ?_
          refine kn_block ?_
          refine kn_then ?_
          refine kwp_region ?_
          refine kd (v_mv) ?_
          refine kd (v_add) ?_
          refine kd (v_as) ?_
          refine kops_nil ?_
          refine kn_then ?_
          obtain rfl := e_some h25
          exact ⟨_, (a36, (out8 ++ ([k9] : List Int)).length, c37), rfl, hd_mk trivial⟩
        ·
          replace h25 := e_f h25 hc33
          refine kwp_skip ?_
          refine kn_block ?_
          refine kn_then ?_
          refine kwp_region ?_
          refine kd (v_mv) ?_
          refine kd (v_add) ?_
          refine kd (v_as) ?_
          refine kops_nil ?_
          refine kn_then ?_
          obtain rfl := e_some h25
          exact ⟨_, (out8a, out8.length, out8c), rfl, hd_mk trivial⟩
      ·
        replace h25 := e_f h25 hc26
        refine kwp_exit ?_
        refine ke_then ?_
        obtain rfl := e_some h25
        refine k_out ?_ rfl
        rintro rfl
        refine ke_block ?_
        exact ⟨(out8a, out8.length, out8c), hd_mk trivial⟩
  · intro out4 y39 _ h40
    obtain ⟨out4a, out4n, out4c⟩ := y39
    refine k_len (c := out4c) (fun hl41 => ?_)
    subst hl41
    refine kwp_seq ?_
    refine kwp_region ?_
    refine kd (v_mv) ?_
    refine kd (v_as) ?_
    refine kops_nil ?_
    refine kn_then ?_
    refine kwp_ret ?_
    obtain rfl := e_some h40
    refine r1 [⟨.slice out4a (out4.length) out4c, 1, out4.map encI⟩] ?_
    exact ⟨out4a, out4c, rfl, rfl⟩

set_option maxRecDepth 20000 in
set_option maxHeartbeats 2000000 in
theorem w_spec_l1Find : ∀ (fuel : Nat) (s01a : Option Addr) (s01n : Nat) (s01c : Nat) (use0a : Option Addr) (use0n : Nat) (use0c : Nat) {s0 : Survey} {use0 : List Int} {from0 : Int} {to0 : Int} {but0 : Int} {r : List Step × Bool} (h : p_spec_l1Find fuel s0 use0 from0 to0 but0 = some r), Triple Tryd.prog 110 [.agg #[.int .i64 s0.st, .slice s01a s01n s01c], .slice use0a use0n use0c, .int .i64 from0, .int .i64 to0, .int .i64 but0] [⟨.slice s01a s01n s01c, 5, s0.legs.map encLeg⟩, ⟨.slice use0a use0n use0c, 1, use0.map encI⟩] [] (fun v ch => ∃ (w0a : Option Addr) (w0c : Nat), v = .tuple #[.slice w0a r.1.length w0c, .bool r.2] ∧ ch = [⟨.slice w0a r.1.length w0c, 2, r.1.map encStep⟩]) := by
  intro fuel
  induction fuel with
  | zero => intros; rename_i h; cases h
  | succ fuel ih =>
    intro s01a s01n s01c use0a use0n use0c s0 use0 from0 to0 but0 r h
    refine triple_start 95 Tryd.func110 Tryd.ntmps110 rfl rfl (fun w0 => ?_)
    refine k_len (c := s01c) (fun hl1 => ?_)
    subst hl1
    refine k_len (c := use0c) (fun hl2 => ?_)
    subst hl2
    unfold p_spec_l1Find at h
    refine kwp_seq ?_
    refine kwp_region ?_
    refine kk (n_box (e := [.int .i64 s0.st, .slice s01a s0.legs.length s01c]) 2 (fun p5_3 => ?_))
    refine kops_nilchunk 2 (by decide) ?_
    refine kd (v_as) ?_
    refine kd (v_as) ?_
    refine kops_nil ?_
    refine kn_then ?_
    refine kwp_seq ?_
    refine kwp_seq ?_
    refine kwp_region ?_
    refine kd (v_mv) ?_
    refine kd (v_mv) ?_
    refine kd (v_cmp) ?_
    refine kops_nil ?_
    refine kn_then ?_
    refine kwp_cond rfl (fun hc4 => ?_) (fun hc4 => ?_)
    ·
      replace h := e_t h hc4
      refine kwp_seq ?_
      refine kwp_region ?_
      refine kk (n_lit (enc := encStep) [] ([] : List Step) Tryd.runUnderlying108 Tryd.sizeOf112 Tryd.zeroValue112 (fun a5 => ?_))
      refine kd (v_as) ?_
      refine kd (v_as) ?_
      refine kops_nil ?_
      refine kn_then ?_
      refine kwp_ret ?_
      refine kr_then ?_
      obtain rfl := e_some h
      refine r2 [⟨.slice (some a5) 0 0, 2, ([] : List Step).map encStep⟩] ?_
      exact ⟨some a5, 0, rfl, rfl⟩
    ·
      replace h := e_f h hc4
      refine kwp_skip ?_
      refine kn_then ?_
      refine kwp_seq ?_
      refine kwp_seq ?_
      refine kwp_region ?_
      refine kd (v_as) ?_
      refine kops_nil ?_
      refine kn_then ?_
      refine kwp_cutO (inv := []) (fun (z : Unit) (y : Unit) => []) (fun (z : Unit) (y : Unit) => []) (fun _ _ => True) h ?_ ?_
      · intro t8 h6 g7
        refine kwp_block ?_
        refine kwp_loopE (inv := [(1, .slice use0a use0.length use0c), (2, .int .i64 from0), (3, .int .i64 to0), (4, .int .i64 but0), (5, .pointer (some p5_3))]) (fun (z : Int) (y : Unit) => [(12, .int .i64 z)]) (fun (z : Int) (y : Unit) => [⟨.pointer (some p5_3), 2, [[.int .i64 s0.st, .slice s01a s0.legs.length s01c]]⟩]) (fun _ _ => True) h6 ⟨(), hd_mk trivial⟩ ?_
        intro n9 y13 b10 _ h11
        unfold p_spec_l1Find_L0 at h11
        refine kwp_seq ?_
        refine kwp_seq ?_
        refine kwp_region ?_
        refine kd (v_mv) ?_
        refine kd (v_mv) ?_
        refine kd (v_len Tryd.runUnderlying46) ?_
        refine kd (v_cmp) ?_
        refine kops_nil ?_
        refine kn_then ?_
        refine kwp_cond rfl (fun hc14 => ?_) (fun hc14 => ?_)
        ·
          replace h11 := e_t h11 hc14
          refine kwp_skip ?_
          refine kn_then ?_
          refine kwp_seq ?_
          refine kwp_block ?_
          refine kwp_seq ?_
          obtain ⟨j15, ej15, nj15, h11⟩ := e_idx h11
          obtain ⟨j16, ej16, nj16, h11⟩ := e_idx h11
          refine kwp_tree (.quiet 0 (.quiet 1 (.quiet 2 (.quiet 3 (.quiet 4 (.quiet 5 (.quiet 6 (.quiet 7 (.one 8 (.one 9 .stop)))))))))) [] [⟨.pointer (some p5_3), 2, [[.int .i64 s0.st, .slice s01a s0.legs.length s01c]]⟩] drawMixed (by kernel_rfl) nopan (by (repeat (first | exact Sub.refl _ | exact Sub.nil _ | refine Sub.chunk (by repeat (first | exact Pick.here | apply Pick.there | apply Pick.seg)) (by rfl) ?_ | refine Sub.seg (by repeat (first | exact PickSeg.here | exact PickSeg.all | apply PickSeg.there | apply PickSeg.seg)) ?_ | exact Sub.seg0 (by repeat (first | exact PickSeg.here | exact PickSeg.all | apply PickSeg.there | apply PickSeg.seg)) | apply Sub.assoc))) ?_
          refine kt_d rfl rfl rfl (v_fb fa_53_1) ?_
          refine kt_d rfl rfl rfl (v_ldb Tryd.isAgg51) ?_
          refine kt_d rfl rfl rfl (v_mv) ?_
          refine kt_d rfl rfl rfl (v_mv) ?_
          refine kt_d rfl rfl rfl (v_ia ej15 nj15 Tryd.runUnderlying46 Tryd.sizeOf3) ?_
          refine kt_d rfl rfl rfl (v_ldf nj15 Tryd.isAgg3) ?_
          refine kt_d rfl rfl rfl (v_ia ej16 nj16 Tryd.runUnderlying51 Tryd.sizeOf55) ?_
          refine kt_d rfl rfl rfl (v_lda (e := [_, _, _, _, _]) nj16 Tryd.isAgg55 Tryd.sizeOf55) ?_
          refine kt_one ?_
          refine kl_k rfl rfl (n_alloc (e := [.int .i64 0, .int .i64 0, .int .i64 0, .int .i64 0, .int .i64 0]) 5 Tryd.zeroValue55 (fun p13_17 => ?_))
          refine ⟨.inl (by (repeat (first | exact Sub.refl _ | exact Sub.nil _ | refine Sub.chunk (by repeat (first | exact Pick.here | apply Pick.there | apply Pick.seg)) (by rfl) ?_ | refine Sub.seg (by repeat (first | exact PickSeg.here | exact PickSeg.all | apply PickSeg.there | apply PickSeg.seg)) ?_ | exact Sub.seg0 (by repeat (first | exact PickSeg.here | exact PickSeg.all | apply PickSeg.there | apply PickSeg.seg)) | apply Sub.assoc))), ?_⟩
          refine kt_one ?_
          refine kl_k rfl rfl (s_B (e' := [.int .i64 ((gx s0.legs j16).f), .int .i64 ((gx s0.legs j16).t), .int .i64 ((gx s0.legs j16).e), .int .i64 ((gx s0.legs j16).n), .int .i64 ((gx s0.legs j16).u)]) Tryd.sizeOf55 ?_)
          refine ⟨.inl (by (repeat (first | exact Sub.refl _ | exact Sub.nil _ | refine Sub.chunk (by repeat (first | exact Pick.here | apply Pick.there | apply Pick.seg)) (by rfl) ?_ | refine Sub.seg (by repeat (first | exact PickSeg.here | exact PickSeg.all | apply PickSeg.there | apply PickSeg.seg)) ?_ | exact Sub.seg0 (by repeat (first | exact PickSeg.here | exact PickSeg.all | apply PickSeg.there | apply PickSeg.seg)) | apply Sub.assoc))), ?_⟩
          refine kt_nil ?_
          refine kn_then ?_
          refine kwp_seq ?_
          refine kwp_seq ?_
          refine kwp_cutE (inv := [(1, .slice use0a use0.length use0c), (2, .int .i64 from0), (3, .int .i64 to0), (4, .int .i64 but0), (5, .pointer (some p5_3)), (12, .int .i64 n9), (13, .pointer (some p13_17))]) (fun (z : Bool) (y : Unit) => [(45, .bool z)]) (fun (z : Bool) (y : Unit) => [⟨.pointer (some p5_3), 2, [[.int .i64 s0.st, .slice s01a s0.legs.length s01c]]⟩, ⟨.pointer (some p13_17), 5, [[.int .i64 ((gx s0.legs j16).f), .int .i64 ((gx s0.legs j16).t), .int .i64 ((gx s0.legs j16).e), .int .i64 ((gx s0.legs j16).n), .int .i64 ((gx s0.legs j16).u)]]⟩]) (fun _ _ => True) h11 ?_ ?_
          · intro t21 h19
            refine kwp_region ?_
            refine kd (v_fb fa_55_0) ?_
            refine kd (v_ldb Tryd.isAgg3) ?_
            refine kd (v_mv) ?_
            refine kd (v_cmp) ?_
            refine kd (v_mv) ?_
            refine kops_split 40 rfl (fun hb22 => ?_) (fun hb22 => ?_)
            ·
              replace h19 := e_t h19 hb22
              refine kgd hb22 (v_fb fa_55_1) ?_
              refine kgd hb22 (v_ldb Tryd.isAgg3) ?_
              refine kgd hb22 (v_mv) ?_
              refine kgd hb22 (v_cmp) ?_
              refine kd (v_pt hb22) ?_
              refine kops_nil ?_
              refine kn_then ?_
              obtain rfl := e_some h19
              exact ⟨(), hd_mk trivial⟩
            ·
              replace h19 := e_f h19 hb22
              refine kskip hb22 ?_
              refine kskip hb22 ?_
              refine kskip hb22 ?_
              refine kskip hb22 ?_
              refine kd (v_pf hb22) ?_
              refine kops_nil ?_
              refine kn_then ?_
              obtain rfl := e_some h19
              exact ⟨(), hd_mk trivial⟩
          · intro x18 y24 _ h25
            refine kn_then ?_
            refine kwp_cutO (inv := [(1, .slice use0a use0.length use0c), (2, .int .i64 from0), (3, .int .i64 to0), (4, .int .i64 but0), (5, .pointer (some p5_3)), (12, .int .i64 n9), (13, .pointer (some p13_17))]) (fun (z : Unit) (y : Unit) => []) (fun (z : Unit) (y : Unit) => [⟨.pointer (some p5_3), 2, [[.int .i64 s0.st, .slice s01a s0.legs.length s01c]]⟩, ⟨.pointer (some p13_17), 5, [[.int .i64 ((gx s0.legs j16).f), .int .i64 ((gx s0.legs j16).t), .int .i64 ((gx s0.legs j16).e), .int .i64 ((gx s0.legs j16).n), .int .i64 ((gx s0.legs j16).u)]]⟩]) (fun _ _ => True) h25 ?_ ?_
            · intro t28 h26 g27
              refine kwp_cond rfl (fun hc29 => ?_) (fun hc29 => ?_)
              ·
                replace h26 := e_t h26 hc29
                refine kwp_seq ?_
                refine kwp_region ?_
                refine kd (v_ldB Tryd.isAgg53 Tryd.sizeOf53) ?_
                refine kd (v_mv) ?_
                refine kd (v_fb fa_55_1) ?_
                refine kd (v_ldb Tryd.isAgg3) ?_
                refine kd (v_mv) ?_
                refine kd (v_mv) ?_
                obtain ⟨⟨v31, v32⟩, hv30, h26⟩ := e_bind h26
                refine kk (n_call Tryd.call110 (ih s01a s0.legs.length s01c use0a use0.length use0c hv30) ?_)
                rintro _ _ ⟨q33a, q33c, rfl, rfl⟩
                refine kd (v_mv) ?_
                refine kd (v_ex) ?_
                refine kd (v_ex) ?_
                refine kd (v_as) ?_
                refine kd (v_as) ?_
                refine kops_nil ?_
                refine kn_then ?_
                refine kwp_seq ?_
                refine kwp_region ?_
                refine kd (v_mv) ?_
                refine kops_nil ?_
                refine kn_then ?_
                refine kwp_cond rfl (fun hc35 => ?_) (fun hc35 => ?_)
                ·
                  replace h26 := e_t h26 hc35
                  refine kwp_seq ?_
                  refine kwp_region ?_
                  refine kd (v_mv) ?_
                  refine kd (v_mv) ?_
                  obtain ⟨j36, ej36, nj36, h26⟩ := e_idx h26
                  refine kd (v_ia ej36 nj36 Tryd.runUnderlying46 Tryd.sizeOf3) ?_
                  refine kd (v_ldf nj36 Tryd.isAgg3) ?_
                  refine kd (v_bd [(0, _)] [_, .bool false] Tryd.zeroValue112 Tryd.runUnderlying112 pl_112) ?_
                  refine kk (n_lit (enc := encStep) [_] ([(⟨gx use0 j36, false⟩ : Step)] : List Step) Tryd.runUnderlying108 Tryd.sizeOf112 Tryd.zeroValue112 (fun a37 => ?_))
                  refine kd (v_mv) ?_
                  obtain ⟨hz38, h26⟩ := e_need h26
                  refine kk (n_app (enc := encStep) ok_encStep hz38 Tryd.underlying108 Tryd.type112 (by decide) (fun a39 c40 => ?_))
                  refine kd (v_as) ?_
                  refine kd (v_as) ?_
                  refine kops_nil ?_
                  refine kn_then ?_
                  refine kwp_ret ?_
                  refine kr_then ?_
                  obtain rfl := e_some h26
                  refine kr_then ?_
                  refine kr_block ?_
                  refine kr_then ?_
                  refine kr_then ?_
                  obtain rfl := e_some g27
                  refine k_out ?_ rfl
                  rintro rfl
                  refine kr_block ?_
                  refine kr_then ?_
                  refine kr_then ?_
                  obtain rfl := e_some g7
                  refine r2 [⟨.slice a39 ((([(⟨gx use0 j36, false⟩ : Step)] : List Step) ++ v31).length) c40, 2, (([(⟨gx use0 j36, false⟩ : Step)] : List Step) ++ v31).map encStep⟩] ?_
                  exact ⟨a39, c40, rfl, rfl⟩
                ·
                  replace h26 := e_f h26 hc35
                  refine kwp_skip ?_
                  refine kn_then ?_
                  obtain rfl := e_some h26
                  exact ⟨_, (), rfl, hd_mk trivial⟩
              ·
                replace h26 := e_f h26 hc29
                refine kwp_skip ?_
                refine kn_then ?_
                obtain rfl := e_some h26
                exact ⟨_, (), rfl, hd_mk trivial⟩
            · intro z41 y42 _ h43
              refine kn_then ?_
              refine kwp_seq ?_
              refine kwp_cutE (inv := [(1, .slice use0a use0.length use0c), (2, .int .i64 from0), (3, .int .i64 to0), (4, .int .i64 but0), (5, .pointer (some p5_3)), (12, .int .i64 n9), (13, .pointer (some p13_17))]) (fun (z : Bool) (y : Unit) => [(74, .bool z)]) (fun (z : Bool) (y : Unit) => [⟨.pointer (some p5_3), 2, [[.int .i64 s0.st, .slice s01a s0.legs.length s01c]]⟩, ⟨.pointer (some p13_17), 5, [[.int .i64 ((gx s0.legs j16).f), .int .i64 ((gx s0.legs j16).t), .int .i64 ((gx s0.legs j16).e), .int .i64 ((gx s0.legs j16).n), .int .i64 ((gx s0.legs j16).u)]]⟩]) (fun _ _ => True) h43 ?_ ?_
              · intro t47 h45
                refine kwp_region ?_
                refine kd (v_fb fa_55_1) ?_
                refine kd (v_ldb Tryd.isAgg3) ?_
                refine kd (v_mv) ?_
                refine kd (v_cmp) ?_
                refine kd (v_mv) ?_
                refine kops_split 69 rfl (fun hb48 => ?_) (fun hb48 => ?_)
                ·
                  replace h45 := e_t h45 hb48
                  refine kgd hb48 (v_fb fa_55_0) ?_
                  refine kgd hb48 (v_ldb Tryd.isAgg3) ?_
                  refine kgd hb48 (v_mv) ?_
                  refine kgd hb48 (v_cmp) ?_
                  refine kd (v_pt hb48) ?_
                  refine kops_nil ?_
                  refine kn_then ?_
                  obtain rfl := e_some h45
                  exact ⟨(), hd_mk trivial⟩
                ·
                  replace h45 := e_f h45 hb48
                  refine kskip hb48 ?_
                  refine kskip hb48 ?_
                  refine kskip hb48 ?_
                  refine kskip hb48 ?_
                  refine kd (v_pf hb48) ?_
                  refine kops_nil ?_
                  refine kn_then ?_
                  obtain rfl := e_some h45
                  exact ⟨(), hd_mk trivial⟩
              · intro x44 y50 _ h51
                refine kn_then ?_
                refine kwp_cond rfl (fun hc52 => ?_) (fun hc52 => ?_)
                ·
                  replace h51 := e_t h51 hc52
                  refine kwp_seq ?_
                  refine kwp_region ?_
                  refine kd (v_ldB Tryd.isAgg53 Tryd.sizeOf53) ?_
                  refine kd (v_mv) ?_
                  refine kd (v_fb fa_55_0) ?_
                  refine kd (v_ldb Tryd.isAgg3) ?_
                  refine kd (v_mv) ?_
                  refine kd (v_mv) ?_
                  obtain ⟨⟨v54, v55⟩, hv53, h51⟩ := e_bind h51
                  refine kk (n_call Tryd.call110 (ih s01a s0.legs.length s01c use0a use0.length use0c hv53) ?_)
                  rintro _ _ ⟨q56a, q56c, rfl, rfl⟩
                  refine kd (v_mv) ?_
                  refine kd (v_ex) ?_
                  refine kd (v_ex) ?_
                  refine kd (v_as) ?_
                  refine kd (v_as) ?_
                  refine kops_nil ?_
                  refine kn_then ?_
                  refine kwp_seq ?_
                  refine kwp_region ?_
                  refine kd (v_mv) ?_
                  refine kops_nil ?_
                  refine kn_then ?_
                  refine kwp_cond rfl (fun hc58 => ?_) (fun hc58 => ?_)
                  ·
                    replace h51 := e_t h51 hc58
                    refine kwp_seq ?_
                    refine kwp_region ?_
                    refine kd (v_mv) ?_
                    refine kd (v_mv) ?_
                    obtain ⟨j59, ej59, nj59, h51⟩ := e_idx h51
                    refine kd (v_ia ej59 nj59 Tryd.runUnderlying46 Tryd.sizeOf3) ?_
                    refine kd (v_ldf nj59 Tryd.isAgg3) ?_
                    refine kd (v_bd [(0, _), (1, _)] [_, _] Tryd.zeroValue112 Tryd.runUnderlying112 pl_112) ?_
                    refine kk (n_lit (enc := encStep) [_] ([(⟨gx use0 j59, true⟩ : Step)] : List Step) Tryd.runUnderlying108 Tryd.sizeOf112 Tryd.zeroValue112 (fun a60 => ?_))
                    refine kd (v_mv) ?_
                    obtain ⟨hz61, h51⟩ := e_need h51
                    refine kk (n_app (enc := encStep) ok_encStep hz61 Tryd.underlying108 Tryd.type112 (by decide) (fun a62 c63 => ?_))
                    refine kd (v_as) ?_
                    refine kd (v_as) ?_
                    refine kops_nil ?_
                    refine kn_then ?_
                    refine kwp_ret ?_
                    refine kr_block ?_
                    refine kr_then ?_
                    refine kr_then ?_
                    obtain rfl := e_some h51
                    refine k_out ?_ rfl
                    rintro rfl
                    refine kr_block ?_
                    refine kr_then ?_
                    refine kr_then ?_
                    obtain rfl := e_some g7
                    refine r2 [⟨.slice a62 ((([(⟨gx use0 j59, true⟩ : Step)] : List Step) ++ v54).length) c63, 2, (([(⟨gx use0 j59, true⟩ : Step)] : List Step) ++ v54).map encStep⟩] ?_
                    exact ⟨a62, c63, rfl, rfl⟩
                  ·
                    replace h51 := e_f h51 hc58
                    refine kwp_skip ?_
                    refine kn_block ?_
                    refine kn_then ?_
                    refine kwp_region ?_
                    refine kd (v_mv) ?_
                    refine kd (v_add) ?_
                    refine kd (v_as) ?_
                    refine kops_nil ?_
                    refine kn_then ?_
                    obtain rfl := e_some h51
                    exact ⟨_, (), rfl, hd_mk trivial⟩
                ·
                  replace h51 := e_f h51 hc52
                  refine kwp_skip ?_
                  refine kn_block ?_
                  refine kn_then ?_
                  refine kwp_region ?_
                  refine kd (v_mv) ?_
                  refine kd (v_add) ?_
                  refine kd (v_as) ?_
                  refine kops_nil ?_
                  refine kn_then ?_
                  obtain rfl := e_some h51
                  exact ⟨_, (), rfl, hd_mk trivial⟩
        ·
          replace h11 := e_f h11 hc14
          refine kwp_exit ?_
          refine ke_then ?_
          obtain rfl := e_some h11
          refine k_out ?_ rfl
          rintro rfl
          refine ke_block ?_
          exact ⟨_, (), rfl, hd_mk trivial⟩
      · intro z64 y65 _ h66
        refine kn_then ?_
        refine kwp_seq ?_
        refine kwp_region ?_
        refine kk (n_lit (enc := encStep) [] ([] : List Step) Tryd.runUnderlying108 Tryd.sizeOf112 Tryd.zeroValue112 (fun a67 => ?_))
        refine kd (v_as) ?_
        refine kd (v_as) ?_
        refine kops_nil ?_
        refine kn_then ?_
        refine kwp_ret ?_
        obtain rfl := e_some h66
        refine r2 [⟨.slice (some a67) 0 0, 2, ([] : List Step).map encStep⟩] ?_
        exact ⟨some a67, 0, rfl, rfl⟩

set_option maxRecDepth 20000 in
theorem w_spec_TreeWay (s01a : Option Addr) (s01n : Nat) (s01c : Nat) {s0 : Survey} {from0 : Int} {to0 : Int} {r : List Step × Bool} (h : p_spec_TreeWay s0 from0 to0 = some r) :
    Triple Tryd.prog 96 [.agg #[.int .i64 s0.st, .slice s01a s01n s01c], .int .i64 from0, .int .i64 to0] [⟨.slice s01a s01n s01c, 5, s0.legs.map encLeg⟩] [] (fun v ch => ∃ (w0a : Option Addr) (w0c : Nat), v = .tuple #[.slice w0a r.1.length w0c, .bool r.2] ∧ ch = [⟨.slice w0a r.1.length w0c, 2, r.1.map encStep⟩]) := by
  refine triple_start 36 Tryd.func96 Tryd.ntmps96 rfl rfl (fun w0 => ?_)
  refine k_len (c := s01c) (fun hl1 => ?_)
  subst hl1
  unfold p_spec_TreeWay at h
  refine kwp_seq ?_
  refine kwp_region ?_
  refine kk (n_box (e := [.int .i64 s0.st, .slice s01a s0.legs.length s01c]) 2 (fun p3_2 => ?_))
  refine kops_nilchunk 2 (by decide) ?_
  refine kd (v_as) ?_
  refine kd (v_as) ?_
  refine kops_nil ?_
  refine kn_then ?_
  refine kwp_seq ?_
  refine kwp_seq ?_
  refine kwp_cutE (inv := [(1, .int .i64 from0), (2, .int .i64 to0), (3, .pointer (some p3_2))]) (fun (z : Bool) (y : Unit) => [(26, .bool z)]) (fun (z : Bool) (y : Unit) => [⟨.pointer (some p3_2), 2, [[.int .i64 s0.st, .slice s01a s0.legs.length s01c]]⟩]) (fun _ _ => True) h ?_ ?_
  · intro t6 h4
    refine kwp_region ?_
    refine kd (v_ldB Tryd.isAgg53 Tryd.sizeOf53) ?_
    obtain ⟨v8, hv7, h4⟩ := e_bind h4
    refine kk (n_call Tryd.call98 (w_spec_SurveyValid s01a s0.legs.length s01c hv7) ?_)
    rintro _ _ ⟨rfl, rfl⟩
    refine kd (v_not) ?_
    refine kd (v_mv) ?_
    refine kops_split 11 rfl (fun hb10 => ?_) (fun hb10 => ?_)
    ·
      replace h4 := e_t h4 hb10
      refine kskip hb10 ?_
      refine kskip hb10 ?_
      refine kskip hb10 ?_
      refine kskip hb10 ?_
      refine kskip hb10 ?_
      refine kskip hb10 ?_
      refine kd (v_pt hb10) ?_
      refine kd (v_mv) ?_
      refine kskip rfl ?_
      refine kskip rfl ?_
      refine kskip rfl ?_
      refine kskip rfl ?_
      refine kskip rfl ?_
      refine kskip rfl ?_
      refine kd (v_pt rfl) ?_
      refine kops_nil ?_
      refine kn_then ?_
      obtain rfl := e_some h4
      exact ⟨(), hd_mk trivial⟩
    ·
      replace h4 := e_f h4 hb10
      refine kgd hb10 (v_mv) ?_
      refine kgd hb10 (v_fb fa_53_0) ?_
      refine kgd hb10 (v_ldb Tryd.isAgg3) ?_
      refine kgd hb10 (v_sub) ?_
      obtain ⟨v12, hv11, h4⟩ := e_bind h4
      refine kgk hb10 (n_call Tryd.call60 (w_spec_l1In hv11) ?_)
      rintro _ _ ⟨rfl, rfl⟩
      refine kgd hb10 (v_not) ?_
      refine kd (v_pf hb10) ?_
      refine kd (v_mv) ?_
      refine kops_split 19 rfl (fun hb14 => ?_) (fun hb14 => ?_)
      ·
        replace h4 := e_t h4 hb14
        refine kskip hb14 ?_
        refine kskip hb14 ?_
        refine kskip hb14 ?_
        refine kskip hb14 ?_
        refine kskip hb14 ?_
        refine kskip hb14 ?_
        refine kd (v_pt hb14) ?_
        refine kops_nil ?_
        refine kn_then ?_
        obtain rfl := e_some h4
        exact ⟨(), hd_mk trivial⟩
      ·
        replace h4 := e_f h4 hb14
        refine kgd hb14 (v_mv) ?_
        refine kgd hb14 (v_fb fa_53_0) ?_
        refine kgd hb14 (v_ldb Tryd.isAgg3) ?_
        refine kgd hb14 (v_sub) ?_
        obtain ⟨v16, hv15, h4⟩ := e_bind h4
        refine kgk hb14 (n_call Tryd.call60 (w_spec_l1In hv15) ?_)
        rintro _ _ ⟨rfl, rfl⟩
        refine kgd hb14 (v_not) ?_
        refine kd (v_pf hb14) ?_
        refine kops_nil ?_
        refine kn_then ?_
        obtain rfl := e_some h4
        exact ⟨(), hd_mk trivial⟩
  · intro x3 y19 _ h20
    refine kn_then ?_
    refine kwp_cond rfl (fun hc21 => ?_) (fun hc21 => ?_)
    ·
      replace h20 := e_t h20 hc21
      refine kwp_seq ?_
      refine kwp_region ?_
      refine kk (n_lit (enc := encStep) [] ([] : List Step) Tryd.runUnderlying108 Tryd.sizeOf112 Tryd.zeroValue112 (fun a22 => ?_))
      refine kd (v_as) ?_
      refine kd (v_as) ?_
      refine kops_nil ?_
      refine kn_then ?_
      refine kwp_ret ?_
      refine kr_then ?_
      obtain rfl := e_some h20
      refine r2 [⟨.slice (some a22) 0 0, 2, ([] : List Step).map encStep⟩] ?_
      exact ⟨some a22, 0, rfl, rfl⟩
    ·
      replace h20 := e_f h20 hc21
      refine kwp_skip ?_
      refine kn_then ?_
      refine kwp_seq ?_
      obtain ⟨v24, hv23, h20⟩ := e_bind h20
      obtain ⟨⟨v27, v28⟩, hv26, h20⟩ := e_bind h20
      refine kwp_tree (.quiet 0 (.quiet 1 (.quiet 3 (.quiet 4 (.one 2 (.one 5 (.quiet 6 (.quiet 7 (.quiet 8 (.quiet 9 .stop)))))))))) [] [⟨.pointer (some p3_2), 2, [[.int .i64 s0.st, .slice s01a s0.legs.length s01c]]⟩] drawMixed (by kernel_rfl) nopan (by (repeat (first | exact Sub.refl _ | exact Sub.nil _ | refine Sub.chunk (by repeat (first | exact Pick.here | apply Pick.there | apply Pick.seg)) (by rfl) ?_ | refine Sub.seg (by repeat (first | exact PickSeg.here | exact PickSeg.all | apply PickSeg.there | apply PickSeg.seg)) ?_ | exact Sub.seg0 (by repeat (first | exact PickSeg.here | exact PickSeg.all | apply PickSeg.there | apply PickSeg.seg)) | apply Sub.assoc))) ?_
      refine kt_d rfl rfl rfl (v_ldB Tryd.isAgg53 Tryd.sizeOf53) ?_
      refine kt_d rfl rfl rfl (v_ldB Tryd.isAgg53 Tryd.sizeOf53) ?_
      refine kt_d rfl rfl rfl (v_mv) ?_
      refine kt_d rfl rfl rfl (v_mv) ?_
      refine kt_one ?_
      refine kl_k rfl rfl (n_call Tryd.call111 (w_spec_TreeLegs s01a s0.legs.length s01c hv23) ?_)
      rintro _ _ ⟨q25a, q25c, rfl, rfl⟩
      refine ⟨.inl (by (repeat (first | exact Sub.refl _ | exact Sub.nil _ | refine Sub.chunk (by repeat (first | exact Pick.here | apply Pick.there | apply Pick.seg)) (by rfl) ?_ | refine Sub.seg (by repeat (first | exact PickSeg.here | exact PickSeg.all | apply PickSeg.there | apply PickSeg.seg)) ?_ | exact Sub.seg0 (by repeat (first | exact PickSeg.here | exact PickSeg.all | apply PickSeg.there | apply PickSeg.seg)) | apply Sub.assoc))), ?_⟩
      refine kt_one ?_
      refine kl_k rfl rfl (n_call Tryd.call110 (w_spec_l1Find 64 s01a s0.legs.length s01c q25a v24.length q25c hv26) ?_)
      rintro _ _ ⟨q29a, q29c, rfl, rfl⟩
      refine ⟨.inl (by (repeat (first | exact Sub.refl _ | exact Sub.nil _ | refine Sub.chunk (by repeat (first | exact Pick.here | apply Pick.there | apply Pick.seg)) (by rfl) ?_ | refine Sub.seg (by repeat (first | exact PickSeg.here | exact PickSeg.all | apply PickSeg.there | apply PickSeg.seg)) ?_ | exact Sub.seg0 (by repeat (first | exact PickSeg.here | exact PickSeg.all | apply PickSeg.there | apply PickSeg.seg)) | apply Sub.assoc))), ?_⟩
      refine kt_d rfl rfl rfl (v_ex) ?_
      refine kt_d rfl rfl rfl (v_ex) ?_
      refine kt_d rfl rfl rfl (v_as) ?_
      refine kt_d rfl rfl rfl (v_as) ?_
      refine kt_nil ?_
      refine kn_then ?_
      refine kwp_ret ?_
      obtain rfl := e_some h20
      refine r2 [⟨.slice q29a v27.length q29c, 2, v27.map encStep⟩] ?_
      exact ⟨q29a, q29c, rfl, rfl⟩

end Go.Proofs.YtpfijnklnljccaaDoor
