/- What the plain programs return, the functions of the program return; no condition. -/
import Derived.Test.YtpfijnklnljccaaDoorQ3Pressures
import Derived.Test.YtpfijnklnljccaaDoorFa
import Derived.Test.YtpfijnklnljccaaDoorVbm
import Derived.Test.YtpfijnklnljccaaDoorVbt
import Derived.Test.YtpfijnklnljccaaDoorVbs
import Derived.Test.YtpfijnklnljccaaDoorVbc
namespace Go.Proofs.YtpfijnklnljccaaDoor
open Go
set_option linter.unusedVariables false
set_option linter.unusedSimpArgs false

set_option maxRecDepth 20000 in
theorem w_spec_DrawPressures (code0a : Option Addr) (code0n : Nat) (code0c : Nat) {code0 : List UInt8} {r : Mine × Int × Int} (h : p_spec_DrawPressures code0 = some r) :
    Triple Tryd.prog 45 [.slice code0a code0n code0c] [⟨.slice code0a code0n code0c, 1, code0.map encB⟩] [] (fun v ch => ∃ (w01a : Option Addr) (w01c : Nat), v = .tuple #[.agg #[.int .i64 r.1.p, .slice w01a r.1.aw.length w01c], .int .i64 r.2.1, .int .i64 r.2.2] ∧ ch = [⟨.slice w01a r.1.aw.length w01c, 3, r.1.aw.map encAirway⟩]) := by
  refine triple_start 11 Tryd.func45 Tryd.ntmps45 rfl rfl (fun w0 => ?_)
  refine k_len (c := code0c) (fun hl1 => ?_)
  subst hl1
  unfold p_spec_DrawPressures at h
  refine kwp_seq ?_
  refine kwp_region ?_
  refine kops_nilchunk 3 (by decide) ?_
  refine kk (n_alloc (e := [.int .i64 0, .slice none 0 0]) 2 Tryd.zeroValue32 (fun p2_2 => ?_))
  refine kd (v_as) ?_
  refine kd (v_as) ?_
  refine kops_nil ?_
  refine kn_then ?_
  refine kwp_seq ?_
  refine kwp_region ?_
  refine kd (v_mv) ?_
  obtain ⟨v4, hv3, h⟩ := e_bind h
  refine kk (n_call Tryd.call57 (w_spec_l20Open code0a code0.length code0c hv3) ?_)
  rintro _ _ ⟨q5p, q50a, q50c, rfl, hvwq5, rfl⟩
  obtain ⟨⟨v7, v8, v9, v10⟩, hv6, h⟩ := e_bind h
  refine kk (n_call Tryd.call86 (w_spec_l20Blown q5p q50a v4.b.length q50c hv6) ?_ (hv := (Views.cons (by repeat (first | exact mh | apply mt | apply mas | apply ms)) hvwq5 (Views.nil _))))
  rintro _ _ ⟨q111a, q111c, rfl, rfl⟩
  refine kd (v_ex) ?_
  refine kd (v_ex) ?_
  refine kd (v_ex) ?_
  refine kk (s_B (e' := [.int .i64 v7.p, .slice q111a v7.aw.length q111c]) Tryd.sizeOf32 ?_)
  refine kd (v_as) ?_
  refine kd (v_as) ?_
  refine kops_nil ?_
  refine kn_then ?_
  refine kwp_ret ?_
  obtain rfl := e_some h
  refine rc2 Tryd.isAgg32 Tryd.sizeOf32 [⟨.slice q111a v7.aw.length q111c, 3, v7.aw.map encAirway⟩] ?_
  exact ⟨q111a, q111c, rfl, rfl⟩

set_option maxRecDepth 20000 in
set_option maxHeartbeats 2000000 in
theorem w_laws_FnPressures (code0a : Option Addr) (code0n : Nat) (code0c : Nat) {code0 : List UInt8} {r : Bool} (h : p_laws_FnPressures code0 = some r) :
    Triple Tryd.prog 11 [.slice code0a code0n code0c] [⟨.slice code0a code0n code0c, 1, code0.map encB⟩, tabC] [] (fun v ch => v = .bool r ∧ ch = []) := by
  refine triple_start 111 Tryd.func11 Tryd.ntmps11 rfl rfl (fun w0 => ?_)
  refine k_len (c := code0c) (fun hl1 => ?_)
  subst hl1
  unfold p_laws_FnPressures at h
  refine kwp_seq ?_
  refine kwp_region ?_
  refine kd (v_as) ?_
  refine kops_nil ?_
  refine kn_then ?_
  refine kwp_seq ?_
  refine kwp_seq ?_
  refine kwp_region ?_
  refine kd (v_mv) ?_
  refine kd (v_len Tryd.runUnderlying22) ?_
  refine kd (v_cmp) ?_
  refine kops_nil ?_
  refine kn_then ?_
  refine kwp_cond rfl (fun hc2 => ?_) (fun hc2 => ?_)
  ·
    replace h := e_t h hc2
    refine kwp_seq ?_
    refine kwp_region ?_
    refine kd (v_as) ?_
    refine kops_nil ?_
    refine kn_then ?_
    refine kwp_ret ?_
    refine kr_then ?_
    obtain rfl := e_some h
    refine r1 [] ?_
    exact ⟨rfl, rfl⟩
  ·
    replace h := e_f h hc2
    refine kwp_skip ?_
    refine kn_then ?_
    refine kwp_seq ?_
    refine kwp_region ?_
    refine kd (v_mv) ?_
    obtain ⟨⟨v4, v5, v6⟩, hv3, h⟩ := e_bind h
    refine kk (n_call Tryd.call45 (w_spec_DrawPressures code0a code0.length code0c hv3) ?_)
    rintro _ _ ⟨q71a, q71c, rfl, rfl⟩
    refine kd (v_mv) ?_
    refine kd (v_ex) ?_
    refine kd (v_ex) ?_
    refine kd (v_ex) ?_
    refine kops_nilchunk 3 (by decide) ?_
    refine kk (n_alloc (e := [.int .i64 0, .slice none 0 0]) 2 Tryd.zeroValue32 (fun p3_10 => ?_))
    refine kk (s_B (e' := [.int .i64 v4.p, .slice q71a v4.aw.length q71c]) Tryd.sizeOf32 ?_)
    refine kd (v_as) ?_
    refine kd (v_as) ?_
    refine kops_nil ?_
    refine kn_then ?_
    refine kwp_seq ?_
    refine kwp_region ?_
    refine kd (v_ldB Tryd.isAgg32 Tryd.sizeOf32) ?_
    refine kd (v_mv) ?_
    refine kd (v_mv) ?_
    obtain ⟨⟨v12, v13⟩, hv11, h⟩ := e_bind h
    refine kk (n_call Tryd.call46 (w_impl_Pressures q71a v4.aw.length q71c hv11) ?_)
    rintro _ _ ⟨q14a, q14c, rfl, rfl⟩
    refine kd (v_mv) ?_
    refine kd (v_ex) ?_
    refine kd (v_ex) ?_
    refine kd (v_as) ?_
    refine kd (v_as) ?_
    refine kops_nil ?_
    refine kn_then ?_
    refine kwp_seq ?_
    refine kwp_region ?_
    refine kd (v_ldB Tryd.isAgg32 Tryd.sizeOf32) ?_
    refine kd (v_mv) ?_
    refine kd (v_mv) ?_
    obtain ⟨⟨v17, v18⟩, hv16, h⟩ := e_bind h
    refine kk (n_call Tryd.call47 (w_spec_Pressures q71a v4.aw.length q71c hv16) ?_)
    rintro _ _ ⟨q19a, q19c, rfl, rfl⟩
    refine kd (v_mv) ?_
    refine kd (v_ex) ?_
    refine kd (v_ex) ?_
    refine kd (v_as) ?_
    refine kd (v_as) ?_
    refine kops_nil ?_
    refine kn_then ?_
    refine kwp_seq ?_
    refine kwp_seq ?_
    refine kwp_cutE (inv := [(3, .pointer (some p3_10)), (4, .int .i64 v5), (5, .int .i64 v6), (6, .slice q14a v12.length q14c), (7, .bool v13)]) (fun (z : Bool) (y : Unit) => [(44, .bool z)]) (fun (z : Bool) (y : Unit) => [⟨.pointer (some p3_10), 2, [[.int .i64 v4.p, .slice q71a v4.aw.length q71c]]⟩, ⟨.slice q71a v4.aw.length q71c, 3, v4.aw.map encAirway⟩, ⟨.slice q14a v12.length q14c, 1, v12.map encI⟩]) (fun _ _ => True) h ?_ ?_
    · intro t24 h22
      refine kwp_region ?_
      refine kd (v_mv) ?_
      refine kd (v_mv) ?_
      obtain ⟨v26, hv25, h22⟩ := e_bind h22
      refine kk (n_call Tryd.call48 (w_laws_sameInts q14a v12.length q14c q19a v17.length q19c hv25) ?_)
      rintro _ _ ⟨rfl, rfl⟩
      refine kd (v_not) ?_
      refine kd (v_mv) ?_
      refine kops_split 40 rfl (fun hb28 => ?_) (fun hb28 => ?_)
      ·
        replace h22 := e_t h22 hb28
        refine kskip hb28 ?_
        refine kskip hb28 ?_
        refine kskip hb28 ?_
        refine kd (v_pt hb28) ?_
        refine kops_nil ?_
        refine kn_then ?_
        obtain rfl := e_some h22
        exact ⟨(), hd_mk trivial⟩
      ·
        replace h22 := e_f h22 hb28
        refine kgd hb28 (v_mv) ?_
        refine kgd hb28 (v_mv) ?_
        refine kgd hb28 (v_neb Tryd.underlying4) ?_
        refine kd (v_pf hb28) ?_
        refine kops_nil ?_
        refine kn_then ?_
        obtain rfl := e_some h22
        exact ⟨(), hd_mk trivial⟩
    · intro x21 y30 _ h31
      refine kn_then ?_
      refine kwp_cond rfl (fun hc32 => ?_) (fun hc32 => ?_)
      ·
        replace h31 := e_t h31 hc32
        refine kwp_seq ?_
        refine kwp_region ?_
        refine kd (v_as) ?_
        refine kops_nil ?_
        refine kn_then ?_
        refine kwp_ret ?_
        refine kr_then ?_
        obtain rfl := e_some h31
        refine r1 [] ?_
        exact ⟨rfl, rfl⟩
      ·
        replace h31 := e_f h31 hc32
        refine kwp_skip ?_
        refine kn_then ?_
        refine kwp_seq ?_
        refine kwp_seq ?_
        refine kwp_region ?_
        refine kd (v_mv) ?_
        refine kd (v_not) ?_
        refine kops_nil ?_
        refine kn_then ?_
        refine kwp_cond rfl (fun hc33 => ?_) (fun hc33 => ?_)
        ·
          replace h31 := e_t h31 hc33
          refine kwp_seq ?_
          refine kwp_region ?_
          refine kd (v_mv) ?_
          refine kd (v_len Tryd.runUnderlying46) ?_
          refine kd (v_cmp) ?_
          refine kd (v_mv) ?_
          refine kops_split 50 rfl (fun hb34 => ?_) (fun hb34 => ?_)
          ·
            replace h31 := e_t h31 hb34
            obtain ⟨v36, hv35, h31⟩ := e_bind h31
            refine kgk hb34 (n_call Tryd.call18 (w_laws_alive hv35) ?_)
            rintro _ _ ⟨rfl, rfl⟩
            refine kd (v_pt hb34) ?_
            refine kd (v_as) ?_
            refine kops_nil ?_
            refine kn_then ?_
            refine kwp_ret ?_
            refine kr_then ?_
            obtain rfl := e_some h31
            refine r1 [] ?_
            exact ⟨rfl, rfl⟩
          ·
            replace h31 := e_f h31 hb34
            refine kskip hb34 ?_
            refine kd (v_pf hb34) ?_
            refine kd (v_as) ?_
            refine kops_nil ?_
            refine kn_then ?_
            refine kwp_ret ?_
            refine kr_then ?_
            obtain rfl := e_some h31
            refine r1 [] ?_
            exact ⟨rfl, rfl⟩
        ·
          replace h31 := e_f h31 hc33
          refine kwp_skip ?_
          refine kn_then ?_
          refine kwp_seq ?_
          refine kwp_region ?_
          refine kd (v_ldB Tryd.isAgg32 Tryd.sizeOf32) ?_
          refine kd (v_mv) ?_
          refine kd (v_mv) ?_
          obtain ⟨⟨v39, v40⟩, hv38, h31⟩ := e_bind h31
          refine kk (n_call Tryd.call46 (w_impl_Pressures q71a v4.aw.length q71c hv38) ?_)
          rintro _ _ ⟨q41a, q41c, rfl, rfl⟩
          refine kd (v_mv) ?_
          refine kd (v_ex) ?_
          refine kd (v_ex) ?_
          refine kd (v_as) ?_
          refine kd (v_as) ?_
          refine kops_nil ?_
          refine kn_then ?_
          refine kwp_seq ?_
          refine kwp_seq ?_
          refine kwp_cutE (inv := [(4, .int .i64 v5), (5, .int .i64 v6), (6, .slice q14a v12.length q14c), (10, .slice q41a v39.length q41c)]) (fun (z : Bool) (y : Unit) => [(68, .bool z)]) (fun (z : Bool) (y : Unit) => [⟨.slice q14a v12.length q14c, 1, v12.map encI⟩, ⟨.slice q41a v39.length q41c, 1, v39.map encI⟩]) (fun _ _ => True) h31 ?_ ?_
          · intro t46 h44
            refine kwp_region ?_
            refine kd (v_mv) ?_
            refine kd (v_not) ?_
            refine kd (v_mv) ?_
            refine kops_split 62 rfl (fun hb47 => ?_) (fun hb47 => ?_)
            ·
              replace h44 := e_t h44 hb47
              refine kskip hb47 ?_
              refine kskip hb47 ?_
              refine kskip hb47 ?_
              refine kskip hb47 ?_
              refine kskip hb47 ?_
              refine kd (v_pt hb47) ?_
              refine kops_nil ?_
              refine kn_then ?_
              obtain rfl := e_some h44
              exact ⟨(), hd_mk trivial⟩
            ·
              replace h44 := e_f h44 hb47
              refine kgd hb47 (v_mv) ?_
              refine kgd hb47 (v_len Tryd.runUnderlying46) ?_
              refine kgd hb47 (v_mv) ?_
              refine kgd hb47 (v_len Tryd.runUnderlying46) ?_
              refine kgd hb47 (v_cmp) ?_
              refine kd (v_pf hb47) ?_
              refine kops_nil ?_
              refine kn_then ?_
              obtain rfl := e_some h44
              exact ⟨(), hd_mk trivial⟩
          · intro x43 y49 _ h50
            refine kn_then ?_
            refine kwp_cond rfl (fun hc51 => ?_) (fun hc51 => ?_)
            ·
              replace h50 := e_t h50 hc51
              refine kwp_seq ?_
              refine kwp_region ?_
              refine kd (v_as) ?_
              refine kops_nil ?_
              refine kn_then ?_
              refine kwp_ret ?_
              refine kr_then ?_
              obtain rfl := e_some h50
              refine r1 [] ?_
              exact ⟨rfl, rfl⟩
            ·
              replace h50 := e_f h50 hc51
              refine kwp_skip ?_
              refine kn_then ?_
              refine kwp_seq ?_
              refine kwp_seq ?_
              refine kwp_region ?_
              refine kd (v_as) ?_
              refine kops_nil ?_
              refine kn_then ?_
              refine kwp_cutO (inv := [(6, .slice q14a v12.length q14c)]) (fun (z : Unit) (y : Unit) => []) (fun (z : Unit) (y : Unit) => [⟨.slice q14a v12.length q14c, 1, v12.map encI⟩]) (fun _ _ => True) h50 ?_ ?_
              · intro t54 h52 g53
                refine kwp_block ?_
                refine kwp_loopE (inv := [(4, .int .i64 v5), (5, .int .i64 v6), (6, .slice q14a v12.length q14c), (10, .slice q41a v39.length q41c)]) (fun (z : Int) (y : Unit) => [(12, .int .i64 z)]) (fun (z : Int) (y : Unit) => [⟨.slice q14a v12.length q14c, 1, v12.map encI⟩, ⟨.slice q41a v39.length q41c, 1, v39.map encI⟩]) (fun _ _ => True) h52 ⟨(), hd_mk trivial⟩ ?_
                intro k55 y59 b56 _ h57
                unfold p_laws_FnPressures_L0 at h57
                refine kwp_seq ?_
                refine kwp_seq ?_
                refine kwp_region ?_
                refine kd (v_mv) ?_
                refine kd (v_mv) ?_
                refine kd (v_len Tryd.runUnderlying46) ?_
                refine kd (v_cmp) ?_
                refine kops_nil ?_
                refine kn_then ?_
                refine kwp_cond rfl (fun hc60 => ?_) (fun hc60 => ?_)
                ·
                  replace h57 := e_t h57 hc60
                  refine kwp_skip ?_
                  refine kn_then ?_
                  refine kwp_seq ?_
                  refine kwp_block ?_
                  refine kwp_seq ?_
                  obtain ⟨j61, ej61, nj61, h57⟩ := e_idx h57
                  obtain ⟨j62, ej62, nj62, h57⟩ := e_idx h57
                  refine sp ((gx v39 j61) != (w64 (-(gx v12 j62)))) (fun hb63 => ?_) (fun hb63 => ?_)
                  ·
                    replace h57 := e_t h57 hb63
                    refine kwp_tree (.quiet 0 (.quiet 1 (.quiet 2 (.quiet 3 (.quiet 4 (.quiet 5 (.quiet 6 (.quiet 7 (.quiet 8 (.quiet 9 (.quiet 10 (.quiet 11 (.quiet 12 (.quiet 13 (.quiet 14 (.quiet 15 (.quiet 16 (.quiet 17 (.quiet 18 (.quiet 19 (.quiet 20 (.quiet 21 (.quiet 22 (.quiet 23 (.quiet 24 (.quiet 25 (.quiet 26 (.quiet 27 (.quiet 28 (.quiet 29 (.quiet 30 (.quiet 31 .stop)))))))))))))))))))))))))))))))) [] [⟨.slice q14a v12.length q14c, 1, v12.map encI⟩, ⟨.slice q41a v39.length q41c, 1, v39.map encI⟩] drawMixed (by kernel_rfl) nopan (by (repeat (first | exact Sub.refl _ | exact Sub.nil _ | refine Sub.chunk (by repeat (first | exact Pick.here | apply Pick.there | apply Pick.seg)) (by rfl) ?_ | refine Sub.seg (by repeat (first | exact PickSeg.here | exact PickSeg.all | apply PickSeg.there | apply PickSeg.seg)) ?_ | exact Sub.seg0 (by repeat (first | exact PickSeg.here | exact PickSeg.all | apply PickSeg.there | apply PickSeg.seg)) | apply Sub.assoc))) ?_
                    refine kt_d rfl rfl rfl (v_mv) ?_
                    refine kt_d rfl rfl rfl (v_mv) ?_
                    refine kt_d rfl rfl rfl (v_ia ej61 nj61 Tryd.runUnderlying46 Tryd.sizeOf3) ?_
                    refine kt_d rfl rfl rfl (v_ldf nj61 Tryd.isAgg3) ?_
                    refine kt_d rfl rfl rfl (v_mv) ?_
                    refine kt_d rfl rfl rfl (v_mv) ?_
                    refine kt_d rfl rfl rfl (v_ia ej62 nj62 Tryd.runUnderlying46 Tryd.sizeOf3) ?_
                    refine kt_d rfl rfl rfl (v_ldf nj62 Tryd.isAgg3) ?_
                    refine kt_d rfl rfl rfl (v_neg) ?_
                    refine kt_d rfl rfl rfl (v_cmp) ?_
                    refine kt_d rfl rfl rfl (v_mv) ?_
                    refine kt_skip rfl rfl rfl rfl hb63 ?_
                    refine kt_skip rfl rfl rfl rfl hb63 ?_
                    refine kt_skip rfl rfl rfl rfl hb63 ?_
                    refine kt_skip rfl rfl rfl rfl hb63 ?_
                    refine kt_skip rfl rfl rfl rfl hb63 ?_
                    refine kt_skip rfl rfl rfl rfl hb63 ?_
                    refine kt_skip rfl rfl rfl rfl hb63 ?_
                    refine kt_skip rfl rfl rfl rfl hb63 ?_
                    refine kt_skip rfl rfl rfl rfl hb63 ?_
                    refine kt_d rfl rfl rfl (v_pt hb63) ?_
                    refine kt_d rfl rfl rfl (v_mv) ?_
                    refine kt_skip rfl rfl rfl rfl rfl ?_
                    refine kt_skip rfl rfl rfl rfl rfl ?_
                    refine kt_skip rfl rfl rfl rfl rfl ?_
                    refine kt_skip rfl rfl rfl rfl rfl ?_
                    refine kt_skip rfl rfl rfl rfl rfl ?_
                    refine kt_skip rfl rfl rfl rfl rfl ?_
                    refine kt_skip rfl rfl rfl rfl rfl ?_
                    refine kt_skip rfl rfl rfl rfl rfl ?_
                    refine kt_skip rfl rfl rfl rfl rfl ?_
                    refine kt_d rfl rfl rfl (v_pt rfl) ?_
                    refine kt_nil ?_
                    refine kn_then ?_
                    refine kwp_cond_t rfl rfl ?_
                    refine kwp_seq ?_
                    refine kwp_region ?_
                    refine kd (v_as) ?_
                    refine kops_nil ?_
                    refine kn_then ?_
                    refine kwp_ret ?_
                    refine kr_block ?_
                    refine kr_then ?_
                    refine kr_then ?_
                    obtain rfl := e_some h57
                    refine k_out ?_ rfl
                    rintro rfl
                    refine kr_block ?_
                    refine kr_then ?_
                    refine kr_then ?_
                    obtain rfl := e_some g53
                    refine r1 [] ?_
                    exact ⟨rfl, rfl⟩
                  ·
                    replace h57 := e_f h57 hb63
                    obtain ⟨j64, ej64, nj64, h57⟩ := e_idx h57
                    refine sp (decide ((gx v12 j64) < (gx v12 j62))) (fun hb65 => ?_) (fun hb65 => ?_)
                    ·
                      replace h57 := e_t h57 hb65
                      refine kwp_tree (.quiet 0 (.quiet 1 (.quiet 2 (.quiet 3 (.quiet 4 (.quiet 5 (.quiet 6 (.quiet 7 (.quiet 8 (.quiet 9 (.quiet 10 (.quiet 11 (.quiet 12 (.quiet 13 (.quiet 14 (.quiet 15 (.quiet 16 (.quiet 17 (.quiet 18 (.quiet 19 (.quiet 20 (.quiet 21 (.quiet 22 (.quiet 23 (.quiet 24 (.quiet 25 (.quiet 26 (.quiet 27 (.quiet 28 (.quiet 29 (.quiet 30 (.quiet 31 .stop)))))))))))))))))))))))))))))))) [] [⟨.slice q14a v12.length q14c, 1, v12.map encI⟩, ⟨.slice q41a v39.length q41c, 1, v39.map encI⟩] drawMixed (by kernel_rfl) nopan (by (repeat (first | exact Sub.refl _ | exact Sub.nil _ | refine Sub.chunk (by repeat (first | exact Pick.here | apply Pick.there | apply Pick.seg)) (by rfl) ?_ | refine Sub.seg (by repeat (first | exact PickSeg.here | exact PickSeg.all | apply PickSeg.there | apply PickSeg.seg)) ?_ | exact Sub.seg0 (by repeat (first | exact PickSeg.here | exact PickSeg.all | apply PickSeg.there | apply PickSeg.seg)) | apply Sub.assoc))) ?_
                      refine kt_d rfl rfl rfl (v_mv) ?_
                      refine kt_d rfl rfl rfl (v_mv) ?_
                      refine kt_d rfl rfl rfl (v_ia ej61 nj61 Tryd.runUnderlying46 Tryd.sizeOf3) ?_
                      refine kt_d rfl rfl rfl (v_ldf nj61 Tryd.isAgg3) ?_
                      refine kt_d rfl rfl rfl (v_mv) ?_
                      refine kt_d rfl rfl rfl (v_mv) ?_
                      refine kt_d rfl rfl rfl (v_ia ej62 nj62 Tryd.runUnderlying46 Tryd.sizeOf3) ?_
                      refine kt_d rfl rfl rfl (v_ldf nj62 Tryd.isAgg3) ?_
                      refine kt_d rfl rfl rfl (v_neg) ?_
                      refine kt_d rfl rfl rfl (v_cmp) ?_
                      refine kt_d rfl rfl rfl (v_mv) ?_
                      refine kt_gv rfl rfl rfl rfl hb63 (v_mv) ?_
                      refine kt_gv rfl rfl rfl rfl hb63 (v_mv) ?_
                      refine kt_gv rfl rfl rfl rfl hb63 (v_ia ej62 nj62 Tryd.runUnderlying46 Tryd.sizeOf3) ?_
                      refine kt_gv rfl rfl rfl rfl hb63 (v_ldf nj62 Tryd.isAgg3) ?_
                      refine kt_gv rfl rfl rfl rfl hb63 (v_mv) ?_
                      refine kt_gv rfl rfl rfl rfl hb63 (v_mv) ?_
                      refine kt_gv rfl rfl rfl rfl hb63 (v_ia ej64 nj64 Tryd.runUnderlying46 Tryd.sizeOf3) ?_
                      refine kt_gv rfl rfl rfl rfl hb63 (v_ldf nj64 Tryd.isAgg3) ?_
                      refine kt_gv rfl rfl rfl rfl hb63 (v_cmp) ?_
                      refine kt_d rfl rfl rfl (v_pf hb63) ?_
                      refine kt_d rfl rfl rfl (v_mv) ?_
                      refine kt_skip rfl rfl rfl rfl hb65 ?_
                      refine kt_skip rfl rfl rfl rfl hb65 ?_
                      refine kt_skip rfl rfl rfl rfl hb65 ?_
                      refine kt_skip rfl rfl rfl rfl hb65 ?_
                      refine kt_skip rfl rfl rfl rfl hb65 ?_
                      refine kt_skip rfl rfl rfl rfl hb65 ?_
                      refine kt_skip rfl rfl rfl rfl hb65 ?_
                      refine kt_skip rfl rfl rfl rfl hb65 ?_
                      refine kt_skip rfl rfl rfl rfl hb65 ?_
                      refine kt_d rfl rfl rfl (v_pt hb65) ?_
                      refine kt_nil ?_
                      refine kn_then ?_
                      refine kwp_cond_t rfl rfl ?_
                      refine kwp_seq ?_
                      refine kwp_region ?_
                      refine kd (v_as) ?_
                      refine kops_nil ?_
                      refine kn_then ?_
                      refine kwp_ret ?_
                      refine kr_block ?_
                      refine kr_then ?_
                      refine kr_then ?_
                      obtain rfl := e_some h57
                      refine k_out ?_ rfl
                      rintro rfl
                      refine kr_block ?_
                      refine kr_then ?_
                      refine kr_then ?_
                      obtain rfl := e_some g53
                      refine r1 [] ?_
                      exact ⟨rfl, rfl⟩
                    ·
                      replace h57 := e_f h57 hb65
                      obtain ⟨j66, ej66, nj66, h57⟩ := e_idx h57
                      refine kwp_tree (.quiet 0 (.quiet 1 (.quiet 2 (.quiet 3 (.quiet 4 (.quiet 5 (.quiet 6 (.quiet 7 (.quiet 8 (.quiet 9 (.quiet 10 (.quiet 11 (.quiet 12 (.quiet 13 (.quiet 14 (.quiet 15 (.quiet 16 (.quiet 17 (.quiet 18 (.quiet 19 (.quiet 20 (.quiet 21 (.quiet 22 (.quiet 23 (.quiet 24 (.quiet 25 (.quiet 26 (.quiet 27 (.quiet 28 (.quiet 29 (.quiet 30 (.quiet 31 .stop)))))))))))))))))))))))))))))))) [] [⟨.slice q14a v12.length q14c, 1, v12.map encI⟩, ⟨.slice q41a v39.length q41c, 1, v39.map encI⟩] drawMixed (by kernel_rfl) nopan (by (repeat (first | exact Sub.refl _ | exact Sub.nil _ | refine Sub.chunk (by repeat (first | exact Pick.here | apply Pick.there | apply Pick.seg)) (by rfl) ?_ | refine Sub.seg (by repeat (first | exact PickSeg.here | exact PickSeg.all | apply PickSeg.there | apply PickSeg.seg)) ?_ | exact Sub.seg0 (by repeat (first | exact PickSeg.here | exact PickSeg.all | apply PickSeg.there | apply PickSeg.seg)) | apply Sub.assoc))) ?_
                      refine kt_d rfl rfl rfl (v_mv) ?_
                      refine kt_d rfl rfl rfl (v_mv) ?_
                      refine kt_d rfl rfl rfl (v_ia ej61 nj61 Tryd.runUnderlying46 Tryd.sizeOf3) ?_
                      refine kt_d rfl rfl rfl (v_ldf nj61 Tryd.isAgg3) ?_
                      refine kt_d rfl rfl rfl (v_mv) ?_
                      refine kt_d rfl rfl rfl (v_mv) ?_
                      refine kt_d rfl rfl rfl (v_ia ej62 nj62 Tryd.runUnderlying46 Tryd.sizeOf3) ?_
                      refine kt_d rfl rfl rfl (v_ldf nj62 Tryd.isAgg3) ?_
                      refine kt_d rfl rfl rfl (v_neg) ?_
                      refine kt_d rfl rfl rfl (v_cmp) ?_
                      refine kt_d rfl rfl rfl (v_mv) ?_
                      refine kt_gv rfl rfl rfl rfl hb63 (v_mv) ?_
                      refine kt_gv rfl rfl rfl rfl hb63 (v_mv) ?_
                      refine kt_gv rfl rfl rfl rfl hb63 (v_ia ej62 nj62 Tryd.runUnderlying46 Tryd.sizeOf3) ?_
                      refine kt_gv rfl rfl rfl rfl hb63 (v_ldf nj62 Tryd.isAgg3) ?_
                      refine kt_gv rfl rfl rfl rfl hb63 (v_mv) ?_
                      refine kt_gv rfl rfl rfl rfl hb63 (v_mv) ?_
                      refine kt_gv rfl rfl rfl rfl hb63 (v_ia ej64 nj64 Tryd.runUnderlying46 Tryd.sizeOf3) ?_
                      refine kt_gv rfl rfl rfl rfl hb63 (v_ldf nj64 Tryd.isAgg3) ?_
                      refine kt_gv rfl rfl rfl rfl hb63 (v_cmp) ?_
                      refine kt_d rfl rfl rfl (v_pf hb63) ?_
                      refine kt_d rfl rfl rfl (v_mv) ?_
                      refine kt_gv rfl rfl rfl rfl hb65 (v_mv) ?_
                      refine kt_gv rfl rfl rfl rfl hb65 (v_mv) ?_
                      refine kt_gv rfl rfl rfl rfl hb65 (v_ia ej62 nj62 Tryd.runUnderlying46 Tryd.sizeOf3) ?_
                      refine kt_gv rfl rfl rfl rfl hb65 (v_ldf nj62 Tryd.isAgg3) ?_
                      refine kt_gv rfl rfl rfl rfl hb65 (v_mv) ?_
                      refine kt_gv rfl rfl rfl rfl hb65 (v_mv) ?_
                      refine kt_gv rfl rfl rfl rfl hb65 (v_ia ej66 nj66 Tryd.runUnderlying46 Tryd.sizeOf3) ?_
                      refine kt_gv rfl rfl rfl rfl hb65 (v_ldf nj66 Tryd.isAgg3) ?_
                      refine kt_gv rfl rfl rfl rfl hb65 (v_cmp) ?_
                      refine kt_d rfl rfl rfl (v_pf hb65) ?_
                      refine kt_nil ?_
                      refine kn_then ?_
                      refine kwp_cond rfl (fun hc67 => ?_) (fun hc67 => ?_)
                      ·
                        replace h57 := e_t h57 hc67
                        refine kwp_seq ?_
                        refine kwp_region ?_
                        refine kd (v_as) ?_
                        refine kops_nil ?_
                        refine kn_then ?_
                        refine kwp_ret ?_
                        refine kr_block ?_
                        refine kr_then ?_
                        refine kr_then ?_
                        obtain rfl := e_some h57
                        refine k_out ?_ rfl
                        rintro rfl
                        refine kr_block ?_
                        refine kr_then ?_
                        refine kr_then ?_
                        obtain rfl := e_some g53
                        refine r1 [] ?_
                        exact ⟨rfl, rfl⟩
                      ·
                        replace h57 := e_f h57 hc67
                        refine kwp_skip ?_
                        refine kn_block ?_
                        refine kn_then ?_
                        refine kwp_region ?_
                        refine kd (v_mv) ?_
                        refine kd (v_add) ?_
                        refine kd (v_as) ?_
                        refine kops_nil ?_
                        refine kn_then ?_
                        obtain rfl := e_some h57
                        exact ⟨_, (), rfl, hd_mk trivial⟩
                ·
                  replace h57 := e_f h57 hc60
                  refine kwp_exit ?_
                  refine ke_then ?_
                  obtain rfl := e_some h57
                  refine k_out ?_ rfl
                  rintro rfl
                  refine ke_block ?_
                  exact ⟨_, (), rfl, hd_mk trivial⟩
              · intro z68 y69 _ h70
                refine kn_then ?_
                refine kwp_seq ?_
                refine kwp_region ?_
                refine kd (v_mv) ?_
                obtain ⟨j71, ej71, nj71, h70⟩ := e_idx h70
                refine kd (v_ia ej71 nj71 Tryd.runUnderlying46 Tryd.sizeOf3) ?_
                refine kd (v_ldf nj71 Tryd.isAgg3) ?_
                refine kd (v_cmp) ?_
                refine kd (v_as) ?_
                refine kops_nil ?_
                refine kn_then ?_
                refine kwp_ret ?_
                obtain rfl := e_some h70
                refine r1 [] ?_
                exact ⟨rfl, rfl⟩

end Go.Proofs.YtpfijnklnljccaaDoor
