/- What the plain programs return, the functions of the program return; no condition. -/
import Derived.Test.YtpfijnklnljccaaDoorQ3AirFlow
import Derived.Test.YtpfijnklnljccaaDoorFa
import Derived.Test.YtpfijnklnljccaaDoorVbm
import Derived.Test.YtpfijnklnljccaaDoorVbt
import Derived.Test.YtpfijnklnljccaaDoorVbs
import Derived.Test.YtpfijnklnljccaaDoorVbc
import Derived.Test.YtpfijnklnljccaaDoorVbf
namespace Go.Proofs.YtpfijnklnljccaaDoor
open Go
set_option linter.unusedVariables false
set_option linter.unusedSimpArgs false

set_option maxRecDepth 20000 in
theorem w_spec_DrawAirFlow (code0a : Option Addr) (code0n : Nat) (code0c : Nat) {code0 : List UInt8} {r : Mine × Int × Int} (h : p_spec_DrawAirFlow code0 = some r) :
    Triple Tryd.prog 55 [.slice code0a code0n code0c] [⟨.slice code0a code0n code0c, 1, code0.map encB⟩] [] (fun v ch => ∃ (w01a : Option Addr) (w01c : Nat), v = .tuple #[.agg #[.int .i64 r.1.p, .slice w01a r.1.aw.length w01c], .int .i64 r.2.1, .int .i64 r.2.2] ∧ ch = [⟨.slice w01a r.1.aw.length w01c, 3, r.1.aw.map encAirway⟩]) := by
  refine triple_start 11 Tryd.func55 Tryd.ntmps55 rfl rfl (fun w0 => ?_)
  refine k_len (c := code0c) (fun hl1 => ?_)
  subst hl1
  unfold p_spec_DrawAirFlow at h
  refine kwp_seq ?_
  refine kwp_region ?_
  refine kops_nilchunk 3 (by decide) ?_
  refine kk (n_alloc (e := [.int .i64 0, .slice none 0 0]) 2 Tryd.zeroValue32 (fun p2_2 => ?_))
  refine kd (v_as) ?_
  refine kd (v_as) ?_
  refine kops_nil ?_
  refine kn_then ?_
  refine kwp_seq ?_
  refine kwp_region ?_
  refine kd (v_mv) ?_
  obtain ⟨v4, hv3, h⟩ := e_bind h
  refine kk (n_call Tryd.call57 (w_spec_l20Open code0a code0.length code0c hv3) ?_)
  rintro _ _ ⟨q5p, q50a, q50c, rfl, hvwq5, rfl⟩
  obtain ⟨⟨v7, v8, v9, v10⟩, hv6, h⟩ := e_bind h
  refine kk (n_call Tryd.call86 (w_spec_l20Blown q5p q50a v4.b.length q50c hv6) ?_ (hv := (Views.cons (by repeat (first | exact mh | apply mt | apply mas | apply ms)) hvwq5 (Views.nil _))))
  rintro _ _ ⟨q111a, q111c, rfl, rfl⟩
  refine kd (v_ex) ?_
  refine kd (v_ex) ?_
  refine kd (v_ex) ?_
  refine kk (s_B (e' := [.int .i64 v7.p, .slice q111a v7.aw.length q111c]) Tryd.sizeOf32 ?_)
  refine kd (v_as) ?_
  refine kd (v_as) ?_
  refine kops_nil ?_
  refine kn_then ?_
  refine kwp_ret ?_
  obtain rfl := e_some h
  refine rc2 Tryd.isAgg32 Tryd.sizeOf32 [⟨.slice q111a v7.aw.length q111c, 3, v7.aw.map encAirway⟩] ?_
  exact ⟨q111a, q111c, rfl, rfl⟩

set_option maxRecDepth 20000 in
set_option maxHeartbeats 2000000 in
theorem w_laws_FnAirFlow (code0a : Option Addr) (code0n : Nat) (code0c : Nat) {code0 : List UInt8} {r : Bool} (h : p_laws_FnAirFlow code0 = some r) :
    Triple Tryd.prog 14 [.slice code0a code0n code0c] [⟨.slice code0a code0n code0c, 1, code0.map encB⟩, tabC] [] (fun v ch => v = .bool r ∧ ch = []) := by
  refine triple_start 103 Tryd.func14 Tryd.ntmps14 rfl rfl (fun w0 => ?_)
  refine k_len (c := code0c) (fun hl1 => ?_)
  subst hl1
  unfold p_laws_FnAirFlow at h
  refine kwp_seq ?_
  refine kwp_region ?_
  refine kd (v_as) ?_
  refine kops_nil ?_
  refine kn_then ?_
  refine kwp_seq ?_
  refine kwp_seq ?_
  refine kwp_region ?_
  refine kd (v_mv) ?_
  refine kd (v_len Tryd.runUnderlying22) ?_
  refine kd (v_cmp) ?_
  refine kops_nil ?_
  refine kn_then ?_
  refine kwp_cond rfl (fun hc2 => ?_) (fun hc2 => ?_)
  ·
    replace h := e_t h hc2
    refine kwp_seq ?_
    refine kwp_region ?_
    refine kd (v_as) ?_
    refine kops_nil ?_
    refine kn_then ?_
    refine kwp_ret ?_
    refine kr_then ?_
    obtain rfl := e_some h
    refine r1 [] ?_
    exact ⟨rfl, rfl⟩
  ·
    replace h := e_f h hc2
    refine kwp_skip ?_
    refine kn_then ?_
    refine kwp_seq ?_
    refine kwp_region ?_
    refine kd (v_mv) ?_
    obtain ⟨⟨v4, v5, v6⟩, hv3, h⟩ := e_bind h
    refine kk (n_call Tryd.call55 (w_spec_DrawAirFlow code0a code0.length code0c hv3) ?_)
    rintro _ _ ⟨q71a, q71c, rfl, rfl⟩
    refine kd (v_mv) ?_
    refine kd (v_ex) ?_
    refine kd (v_ex) ?_
    refine kd (v_ex) ?_
    refine kops_nilchunk 3 (by decide) ?_
    refine kk (n_alloc (e := [.int .i64 0, .slice none 0 0]) 2 Tryd.zeroValue32 (fun p3_10 => ?_))
    refine kk (s_B (e' := [.int .i64 v4.p, .slice q71a v4.aw.length q71c]) Tryd.sizeOf32 ?_)
    refine kd (v_as) ?_
    refine kd (v_as) ?_
    refine kops_nil ?_
    refine kn_then ?_
    refine kwp_seq ?_
    refine kwp_region ?_
    refine kd (v_ldB Tryd.isAgg32 Tryd.sizeOf32) ?_
    refine kd (v_mv) ?_
    refine kd (v_mv) ?_
    obtain ⟨⟨v12, v13⟩, hv11, h⟩ := e_bind h
    refine kk (n_call Tryd.call44 (w_impl_AirFlow q71a v4.aw.length q71c hv11) ?_)
    rintro _ _ ⟨q14a, q14c, rfl, rfl⟩
    refine kd (v_mv) ?_
    refine kd (v_ex) ?_
    refine kd (v_ex) ?_
    refine kd (v_as) ?_
    refine kd (v_as) ?_
    refine kops_nil ?_
    refine kn_then ?_
    refine kwp_seq ?_
    refine kwp_region ?_
    refine kd (v_ldB Tryd.isAgg32 Tryd.sizeOf32) ?_
    refine kd (v_mv) ?_
    refine kd (v_mv) ?_
    obtain ⟨⟨v17, v18⟩, hv16, h⟩ := e_bind h
    refine kk (n_call Tryd.call56 (w_spec_AirFlow q71a v4.aw.length q71c hv16) ?_)
    rintro _ _ ⟨q19a, q19c, rfl, rfl⟩
    refine kd (v_mv) ?_
    refine kd (v_ex) ?_
    refine kd (v_ex) ?_
    refine kd (v_as) ?_
    refine kd (v_as) ?_
    refine kops_nil ?_
    refine kn_then ?_
    refine kwp_seq ?_
    refine kwp_seq ?_
    refine kwp_cutE (inv := [(3, .pointer (some p3_10)), (4, .int .i64 v5), (5, .int .i64 v6), (6, .slice q14a v12.length q14c), (7, .bool v13)]) (fun (z : Bool) (y : Unit) => [(45, .bool z)]) (fun (z : Bool) (y : Unit) => [⟨.pointer (some p3_10), 2, [[.int .i64 v4.p, .slice q71a v4.aw.length q71c]]⟩, ⟨.slice q71a v4.aw.length q71c, 3, v4.aw.map encAirway⟩, ⟨.slice q14a v12.length q14c, 1, v12.map encI⟩]) (fun _ _ => True) h ?_ ?_
    · intro t24 h22
      refine kwp_region ?_
      refine kd (v_mv) ?_
      refine kd (v_mv) ?_
      obtain ⟨v26, hv25, h22⟩ := e_bind h22
      refine kk (n_call Tryd.call48 (w_laws_sameInts q14a v12.length q14c q19a v17.length q19c hv25) ?_)
      rintro _ _ ⟨rfl, rfl⟩
      refine kd (v_not) ?_
      refine kd (v_mv) ?_
      refine kops_split 41 rfl (fun hb28 => ?_) (fun hb28 => ?_)
      ·
        replace h22 := e_t h22 hb28
        refine kskip hb28 ?_
        refine kskip hb28 ?_
        refine kskip hb28 ?_
        refine kd (v_pt hb28) ?_
        refine kops_nil ?_
        refine kn_then ?_
        obtain rfl := e_some h22
        exact ⟨(), hd_mk trivial⟩
      ·
        replace h22 := e_f h22 hb28
        refine kgd hb28 (v_mv) ?_
        refine kgd hb28 (v_mv) ?_
        refine kgd hb28 (v_neb Tryd.underlying4) ?_
        refine kd (v_pf hb28) ?_
        refine kops_nil ?_
        refine kn_then ?_
        obtain rfl := e_some h22
        exact ⟨(), hd_mk trivial⟩
    · intro x21 y30 _ h31
      refine kn_then ?_
      refine kwp_cond rfl (fun hc32 => ?_) (fun hc32 => ?_)
      ·
        replace h31 := e_t h31 hc32
        refine kwp_seq ?_
        refine kwp_region ?_
        refine kd (v_as) ?_
        refine kops_nil ?_
        refine kn_then ?_
        refine kwp_ret ?_
        refine kr_then ?_
        obtain rfl := e_some h31
        refine r1 [] ?_
        exact ⟨rfl, rfl⟩
      ·
        replace h31 := e_f h31 hc32
        refine kwp_skip ?_
        refine kn_then ?_
        refine kwp_seq ?_
        refine kwp_seq ?_
        refine kwp_region ?_
        refine kd (v_mv) ?_
        refine kd (v_not) ?_
        refine kops_nil ?_
        refine kn_then ?_
        refine kwp_cond rfl (fun hc33 => ?_) (fun hc33 => ?_)
        ·
          replace h31 := e_t h31 hc33
          refine kwp_seq ?_
          refine kwp_region ?_
          refine kd (v_mv) ?_
          refine kd (v_len Tryd.runUnderlying46) ?_
          refine kd (v_cmp) ?_
          refine kd (v_mv) ?_
          refine kops_split 51 rfl (fun hb34 => ?_) (fun hb34 => ?_)
          ·
            replace h31 := e_t h31 hb34
            obtain ⟨v36, hv35, h31⟩ := e_bind h31
            refine kgk hb34 (n_call Tryd.call18 (w_laws_alive hv35) ?_)
            rintro _ _ ⟨rfl, rfl⟩
            refine kd (v_pt hb34) ?_
            refine kd (v_as) ?_
            refine kops_nil ?_
            refine kn_then ?_
            refine kwp_ret ?_
            refine kr_then ?_
            obtain rfl := e_some h31
            refine r1 [] ?_
            exact ⟨rfl, rfl⟩
          ·
            replace h31 := e_f h31 hb34
            refine kskip hb34 ?_
            refine kd (v_pf hb34) ?_
            refine kd (v_as) ?_
            refine kops_nil ?_
            refine kn_then ?_
            refine kwp_ret ?_
            refine kr_then ?_
            obtain rfl := e_some h31
            refine r1 [] ?_
            exact ⟨rfl, rfl⟩
        ·
          replace h31 := e_f h31 hc33
          refine kwp_skip ?_
          refine kn_then ?_
          refine kwp_seq ?_
          refine kwp_region ?_
          refine kd (v_ldB Tryd.isAgg32 Tryd.sizeOf32) ?_
          refine kd (v_mv) ?_
          refine kd (v_mv) ?_
          obtain ⟨⟨v39, v40⟩, hv38, h31⟩ := e_bind h31
          refine kk (n_call Tryd.call46 (w_impl_Pressures q71a v4.aw.length q71c hv38) ?_)
          rintro _ _ ⟨q41a, q41c, rfl, rfl⟩
          refine kd (v_mv) ?_
          refine kd (v_ex) ?_
          refine kd (v_ex) ?_
          refine kd (v_as) ?_
          refine kd (v_as) ?_
          refine kops_nil ?_
          refine kn_then ?_
          refine kwp_seq ?_
          refine kwp_seq ?_
          refine kwp_region ?_
          refine kd (v_mv) ?_
          refine kd (v_len Tryd.runUnderlying46) ?_
          refine kd (v_fb fa_32_0) ?_
          refine kd (v_ldb Tryd.isAgg3) ?_
          refine kd (v_cmp) ?_
          refine kops_nil ?_
          refine kn_then ?_
          refine kwp_cond rfl (fun hc43 => ?_) (fun hc43 => ?_)
          ·
            replace h31 := e_t h31 hc43
            refine kwp_seq ?_
            refine kwp_region ?_
            refine kd (v_as) ?_
            refine kops_nil ?_
            refine kn_then ?_
            refine kwp_ret ?_
            refine kr_then ?_
            obtain rfl := e_some h31
            refine r1 [] ?_
            exact ⟨rfl, rfl⟩
          ·
            replace h31 := e_f h31 hc43
            refine kwp_skip ?_
            refine kn_then ?_
            refine kwp_seq ?_
            refine kwp_seq ?_
            refine kwp_region ?_
            refine kd (v_as) ?_
            refine kops_nil ?_
            refine kn_then ?_
            refine kwp_cutO (inv := [(3, .pointer (some p3_10)), (4, .int .i64 v5), (5, .int .i64 v6), (6, .slice q14a v12.length q14c)]) (fun (z : Unit) (y : Unit) => []) (fun (z : Unit) (y : Unit) => [⟨.pointer (some p3_10), 2, [[.int .i64 v4.p, .slice q71a v4.aw.length q71c]]⟩, ⟨.slice q71a v4.aw.length q71c, 3, v4.aw.map encAirway⟩, ⟨.slice q14a v12.length q14c, 1, v12.map encI⟩]) (fun _ _ => True) h31 ?_ ?_
            · intro t46 h44 g45
              refine kwp_block ?_
              refine kwp_loopE (inv := [(3, .pointer (some p3_10)), (4, .int .i64 v5), (5, .int .i64 v6), (6, .slice q14a v12.length q14c), (10, .slice q41a v39.length q41c)]) (fun (z : Int) (y : Unit) => [(12, .int .i64 z)]) (fun (z : Int) (y : Unit) => [⟨.pointer (some p3_10), 2, [[.int .i64 v4.p, .slice q71a v4.aw.length q71c]]⟩, ⟨.slice q71a v4.aw.length q71c, 3, v4.aw.map encAirway⟩, ⟨.slice q14a v12.length q14c, 1, v12.map encI⟩, ⟨.slice q41a v39.length q41c, 1, v39.map encI⟩]) (fun _ _ => True) h44 ⟨(), hd_mk trivial⟩ ?_
              intro k47 y51 b48 _ h49
              unfold p_laws_FnAirFlow_L0 at h49
              refine kwp_seq ?_
              refine kwp_seq ?_
              refine kwp_region ?_
              refine kd (v_mv) ?_
              refine kd (v_mv) ?_
              refine kd (v_len Tryd.runUnderlying46) ?_
              refine kd (v_cmp) ?_
              refine kops_nil ?_
              refine kn_then ?_
              refine kwp_cond rfl (fun hc52 => ?_) (fun hc52 => ?_)
              ·
                replace h49 := e_t h49 hc52
                refine kwp_skip ?_
                refine kn_then ?_
                refine kwp_seq ?_
                refine kwp_block ?_
                refine kwp_seq ?_
                refine kwp_region ?_
                refine kd (v_fb fa_32_1) ?_
                refine kd (v_ldb Tryd.isAgg30) ?_
                refine kd (v_mv) ?_
                obtain ⟨j53, ej53, nj53, h49⟩ := e_idx h49
                refine kd (v_ia ej53 nj53 Tryd.runUnderlying30 Tryd.sizeOf36) ?_
                refine kd (v_lda (e := [_, _, _]) nj53 Tryd.isAgg36 Tryd.sizeOf36) ?_
                refine kk (n_alloc (e := [.int .i64 0, .int .i64 0, .int .i64 0]) 3 Tryd.zeroValue36 (fun p13_54 => ?_))
                refine kk (s_B (e' := [.int .i64 ((gx v4.aw j53).f), .int .i64 ((gx v4.aw j53).t), .int .i64 ((gx v4.aw j53).w)]) Tryd.sizeOf36 ?_)
                refine kops_nil ?_
                refine kn_then ?_
                refine kwp_seq ?_
                obtain ⟨j55, ej55, nj55, h49⟩ := e_idx h49
                obtain ⟨j56, ej56, nj56, h49⟩ := e_idx h49
                obtain ⟨j57, ej57, nj57, h49⟩ := e_idx h49
                refine kwp_tree (.quiet 0 (.quiet 1 (.quiet 2 (.quiet 3 (.quiet 4 (.quiet 5 (.quiet 6 (.quiet 7 (.quiet 8 (.quiet 9 (.quiet 10 (.quiet 11 (.quiet 12 (.quiet 13 (.quiet 14 (.quiet 15 (.quiet 16 (.quiet 17 (.quiet 18 .stop))))))))))))))))))) [] [⟨.slice q14a v12.length q14c, 1, v12.map encI⟩, ⟨.slice q41a v39.length q41c, 1, v39.map encI⟩, ⟨.pointer (some p13_54), 3, [[.int .i64 ((gx v4.aw j53).f), .int .i64 ((gx v4.aw j53).t), .int .i64 ((gx v4.aw j53).w)]]⟩] drawMixed (by kernel_rfl) nopan (by (repeat (first | exact Sub.refl _ | exact Sub.nil _ | refine Sub.chunk (by repeat (first | exact Pick.here | apply Pick.there | apply Pick.seg)) (by rfl) ?_ | refine Sub.seg (by repeat (first | exact PickSeg.here | exact PickSeg.all | apply PickSeg.there | apply PickSeg.seg)) ?_ | exact Sub.seg0 (by repeat (first | exact PickSeg.here | exact PickSeg.all | apply PickSeg.there | apply PickSeg.seg)) | apply Sub.assoc))) ?_
                refine kt_d rfl rfl rfl (v_mv) ?_
                refine kt_d rfl rfl rfl (v_mv) ?_
                refine kt_d rfl rfl rfl (v_ia ej55 nj55 Tryd.runUnderlying46 Tryd.sizeOf3) ?_
                refine kt_d rfl rfl rfl (v_ldf nj55 Tryd.isAgg3) ?_
                refine kt_d rfl rfl rfl (v_fb fa_36_2) ?_
                refine kt_d rfl rfl rfl (v_ldb Tryd.isAgg3) ?_
                refine kt_d rfl rfl rfl (v_mv) ?_
                refine kt_d rfl rfl rfl (v_fb fa_36_0) ?_
                refine kt_d rfl rfl rfl (v_ldb Tryd.isAgg3) ?_
                refine kt_d rfl rfl rfl (v_ia ej56 nj56 Tryd.runUnderlying46 Tryd.sizeOf3) ?_
                refine kt_d rfl rfl rfl (v_ldf nj56 Tryd.isAgg3) ?_
                refine kt_d rfl rfl rfl (v_mv) ?_
                refine kt_d rfl rfl rfl (v_fb fa_36_1) ?_
                refine kt_d rfl rfl rfl (v_ldb Tryd.isAgg3) ?_
                refine kt_d rfl rfl rfl (v_ia ej57 nj57 Tryd.runUnderlying46 Tryd.sizeOf3) ?_
                refine kt_d rfl rfl rfl (v_ldf nj57 Tryd.isAgg3) ?_
                refine kt_d rfl rfl rfl (v_sub) ?_
                refine kt_d rfl rfl rfl (v_mul) ?_
                refine kt_d rfl rfl rfl (v_cmp) ?_
                refine kt_nil ?_
                refine kn_then ?_
                refine kwp_cond rfl (fun hc58 => ?_) (fun hc58 => ?_)
                ·
                  replace h49 := e_t h49 hc58
                  refine kwp_seq ?_
                  refine kwp_region ?_
                  refine kd (v_as) ?_
                  refine kops_nil ?_
                  refine kn_then ?_
                  refine kwp_ret ?_
                  refine kr_block ?_
                  refine kr_then ?_
                  refine kr_then ?_
                  obtain rfl := e_some h49
                  refine k_out ?_ rfl
                  rintro rfl
                  refine kr_block ?_
                  refine kr_then ?_
                  refine kr_then ?_
                  obtain rfl := e_some g45
                  refine r1 [] ?_
                  exact ⟨rfl, rfl⟩
                ·
                  replace h49 := e_f h49 hc58
                  refine kwp_skip ?_
                  refine kn_block ?_
                  refine kn_then ?_
                  refine kwp_region ?_
                  refine kd (v_mv) ?_
                  refine kd (v_add) ?_
                  refine kd (v_as) ?_
                  refine kops_nil ?_
                  refine kn_then ?_
                  obtain rfl := e_some h49
                  exact ⟨_, (), rfl, hd_mk trivial⟩
              ·
                replace h49 := e_f h49 hc52
                refine kwp_exit ?_
                refine ke_then ?_
                obtain rfl := e_some h49
                refine k_out ?_ rfl
                rintro rfl
                refine ke_block ?_
                exact ⟨_, (), rfl, hd_mk trivial⟩
            · intro z59 y60 _ h61
              refine kn_then ?_
              refine kwp_seq ?_
              obtain ⟨v63, hv62, h61⟩ := e_bind h61
              obtain ⟨v66, hv65, h61⟩ := e_bind h61
              refine kwp_tree (.quiet 0 (.quiet 1 (.quiet 2 (.quiet 3 (.quiet 5 (.one 4 (.one 6 (.quiet 7 .stop)))))))) [] [⟨.pointer (some p3_10), 2, [[.int .i64 v4.p, .slice q71a v4.aw.length q71c]]⟩] drawMixed (by kernel_rfl) nopan (by (repeat (first | exact Sub.refl _ | exact Sub.nil _ | refine Sub.chunk (by repeat (first | exact Pick.here | apply Pick.there | apply Pick.seg)) (by rfl) ?_ | refine Sub.seg (by repeat (first | exact PickSeg.here | exact PickSeg.all | apply PickSeg.there | apply PickSeg.seg)) ?_ | exact Sub.seg0 (by repeat (first | exact PickSeg.here | exact PickSeg.all | apply PickSeg.there | apply PickSeg.seg)) | apply Sub.assoc))) ?_
              refine kt_d rfl rfl rfl (v_ldB Tryd.isAgg32 Tryd.sizeOf32) ?_
              refine kt_d rfl rfl rfl (v_mv) ?_
              refine kt_d rfl rfl rfl (v_mv) ?_
              refine kt_d rfl rfl rfl (v_ldB Tryd.isAgg32 Tryd.sizeOf32) ?_
              refine kt_d rfl rfl rfl (v_mv) ?_
              refine kt_one ?_
              refine kl_k rfl rfl (n_call Tryd.call37 (w_impl_AirTrees q71a v4.aw.length q71c hv62) ?_)
              rintro _ _ ⟨rfl, rfl⟩
              refine ⟨.inl (by (repeat (first | exact Sub.refl _ | exact Sub.nil _ | refine Sub.chunk (by repeat (first | exact Pick.here | apply Pick.there | apply Pick.seg)) (by rfl) ?_ | refine Sub.seg (by repeat (first | exact PickSeg.here | exact PickSeg.all | apply PickSeg.there | apply PickSeg.seg)) ?_ | exact Sub.seg0 (by repeat (first | exact PickSeg.here | exact PickSeg.all | apply PickSeg.there | apply PickSeg.seg)) | apply Sub.assoc))), ?_⟩
              refine kt_one ?_
              refine kl_k rfl rfl (n_call Tryd.call50 (w_impl_FlowOk q71a v4.aw.length q71c q14a v12.length q14c hv65) ?_)
              rintro _ _ ⟨rfl, rfl⟩
              refine ⟨.inl (by (repeat (first | exact Sub.refl _ | exact Sub.nil _ | refine Sub.chunk (by repeat (first | exact Pick.here | apply Pick.there | apply Pick.seg)) (by rfl) ?_ | refine Sub.seg (by repeat (first | exact PickSeg.here | exact PickSeg.all | apply PickSeg.there | apply PickSeg.seg)) ?_ | exact Sub.seg0 (by repeat (first | exact PickSeg.here | exact PickSeg.all | apply PickSeg.there | apply PickSeg.seg)) | apply Sub.assoc))), ?_⟩
              refine kt_d rfl rfl rfl (v_as) ?_
              refine kt_nil ?_
              refine kn_then ?_
              refine kwp_ret ?_
              obtain rfl := e_some h61
              refine r1 [] ?_
              exact ⟨rfl, rfl⟩

end Go.Proofs.YtpfijnklnljccaaDoor
