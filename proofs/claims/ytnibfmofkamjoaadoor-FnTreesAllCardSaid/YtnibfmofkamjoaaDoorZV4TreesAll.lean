/- What the plain programs return, the functions of the program return; no condition. -/
import Derived.Test.YtnibfmofkamjoaaDoorZQ
import Derived.Test.YtnibfmofkamjoaaDoorZFa
import Derived.Test.YtnibfmofkamjoaaDoorZVbg
import Derived.Test.YtnibfmofkamjoaaDoorZVbt
import Derived.Test.YtnibfmofkamjoaaDoorZVba
import Derived.Test.YtnibfmofkamjoaaDoorZVbc
namespace Go.Proofs.YtnibfmofkamjoaaDoor
open Go
set_option linter.unusedVariables false
set_option linter.unusedSimpArgs false

set_option maxRecDepth 20000 in
theorem w_spec_DrawTreesAll (code0a : Option Addr) (code0n : Nat) (code0c : Nat) {code0 : List UInt8} {r : Survey} (h : p_spec_DrawTreesAll code0 = some r) :
    Triple Tryd.prog 46 [.slice code0a code0n code0c] [⟨.slice code0a code0n code0c, 1, code0.map encB⟩] [] (fun v ch => ∃ (w01a : Option Addr) (w01c : Nat), v = .agg #[.int .i64 r.st, .slice w01a r.legs.length w01c] ∧ ch = [⟨.slice w01a r.legs.length w01c, 5, r.legs.map encLeg⟩]) := by
  refine triple_start 6 Tryd.func46 Tryd.ntmps46 rfl rfl (fun w0 => ?_)
  refine k_len (c := code0c) (fun hl1 => ?_)
  subst hl1
  unfold p_spec_DrawTreesAll at h
  refine kwp_seq ?_
  refine kwp_region ?_
  refine kops_nilchunk 5 (by decide) ?_
  refine kk (n_alloc (e := [.int .i64 0, .slice none 0 0]) 2 Tryd.zeroValue25 (fun p2_2 => ?_))
  refine kops_nil ?_
  refine kn_then ?_
  refine kwp_seq ?_
  refine kwp_region ?_
  refine kd (v_mv) ?_
  obtain ⟨v4, hv3, h⟩ := e_bind h
  refine kk (n_call Tryd.call68 (w_spec_l20Open code0a code0.length code0c hv3) ?_)
  rintro _ _ ⟨q5p, q50a, q50c, rfl, hvwq5, rfl⟩
  obtain ⟨⟨v7, v8⟩, hv6, h⟩ := e_bind h
  refine kk (n_call Tryd.call69 (w_spec_l20Linked q5p q50a v4.b.length q50c hv6) ?_ (hv := (Views.cons (by repeat (first | exact mh | apply mt | apply mas | apply ms)) hvwq5 (Views.nil _))))
  rintro _ _ ⟨q91a, q91c, rfl, rfl⟩
  refine kk (s_B (e' := [.int .i64 v7.st, .slice q91a v7.legs.length q91c]) Tryd.sizeOf25 ?_)
  refine kops_nil ?_
  refine kn_then ?_
  refine kwp_ret ?_
  obtain rfl := e_some h
  refine rc Tryd.isAgg25 Tryd.sizeOf25 [⟨.slice q91a v7.legs.length q91c, 5, v7.legs.map encLeg⟩] ?_
  exact ⟨q91a, q91c, rfl, rfl⟩

set_option maxRecDepth 20000 in
set_option maxHeartbeats 2000000 in
theorem w_laws_FnTreesAll (code0a : Option Addr) (code0n : Nat) (code0c : Nat) {code0 : List UInt8} {r : Bool} (h : p_laws_FnTreesAll code0 = some r) :
    Triple Tryd.prog 9 [.slice code0a code0n code0c] [⟨.slice code0a code0n code0c, 1, code0.map encB⟩, tabC] [] (fun v ch => v = .bool r ∧ ch = []) := by
  refine triple_start 98 Tryd.func9 Tryd.ntmps9 rfl rfl (fun w0 => ?_)
  refine k_len (c := code0c) (fun hl1 => ?_)
  subst hl1
  unfold p_laws_FnTreesAll at h
  refine kwp_seq ?_
  refine kwp_region ?_
  refine kd (v_as) ?_
  refine kops_nil ?_
  refine kn_then ?_
  refine kwp_seq ?_
  refine kwp_seq ?_
  refine kwp_region ?_
  refine kd (v_mv) ?_
  refine kd (v_len Tryd.runUnderlying22) ?_
  refine kd (v_cmp) ?_
  refine kops_nil ?_
  refine kn_then ?_
  refine kwp_cond rfl (fun hc2 => ?_) (fun hc2 => ?_)
  ·
    replace h := e_t h hc2
    refine kwp_seq ?_
    refine kwp_region ?_
    refine kd (v_as) ?_
    refine kops_nil ?_
    refine kn_then ?_
    refine kwp_ret ?_
    refine kr_then ?_
    obtain rfl := e_some h
    refine r1 [] ?_
    exact ⟨rfl, rfl⟩
  ·
    replace h := e_f h hc2
    refine kwp_skip ?_
    refine kn_then ?_
    refine kwp_seq ?_
    refine kwp_region ?_
    refine kd (v_mv) ?_
    obtain ⟨v4, hv3, h⟩ := e_bind h
    refine kk (n_call Tryd.call46 (w_spec_DrawTreesAll code0a code0.length code0c hv3) ?_)
    rintro _ _ ⟨q51a, q51c, rfl, rfl⟩
    refine kops_nilchunk 5 (by decide) ?_
    refine kk (n_alloc (e := [.int .i64 0, .slice none 0 0]) 2 Tryd.zeroValue25 (fun p3_6 => ?_))
    refine kk (s_B (e' := [.int .i64 v4.st, .slice q51a v4.legs.length q51c]) Tryd.sizeOf25 ?_)
    refine kops_nil ?_
    refine kn_then ?_
    refine kwp_seq ?_
    refine kwp_region ?_
    refine kd (v_ldB Tryd.isAgg25 Tryd.sizeOf25) ?_
    obtain ⟨v8, hv7, h⟩ := e_bind h
    refine kk (n_call Tryd.call47 (w_impl_TreesAll q51a v4.legs.length q51c hv7) ?_)
    rintro _ _ ⟨q9a, q9c, q9R, rfl, hq9R, rfl⟩
    refine kd (v_as) ?_
    refine kops_nil ?_
    refine kn_then ?_
    refine kwp_seq ?_
    refine kwp_seq ?_
    refine kwp_region ?_
    refine kd (v_mv) ?_
    refine kd (v_ldB Tryd.isAgg25 Tryd.sizeOf25) ?_
    obtain ⟨v11, hv10, h⟩ := e_bind h
    refine kk (n_call Tryd.call48 (w_spec_TreesAll q51a v4.legs.length q51c hv10) ?_)
    rintro _ _ ⟨q12a, q12c, q12R, rfl, hq12R, rfl⟩
    obtain ⟨v14, hv13, h⟩ := e_bind h
    refine kk (n_call Tryd.call37 (w_laws_sameLists q9a v8.length q9c q9R q12a v11.length q12c q12R hq9R hq12R hv13) ?_)
    rintro _ _ ⟨rfl, rfl⟩
    refine kd (v_not) ?_
    refine kops_nil ?_
    refine kn_then ?_
    refine kwp_cond rfl (fun hc16 => ?_) (fun hc16 => ?_)
    ·
      replace h := e_t h hc16
      refine kwp_seq ?_
      refine kwp_region ?_
      refine kd (v_as) ?_
      refine kops_nil ?_
      refine kn_then ?_
      refine kwp_ret ?_
      refine kr_then ?_
      obtain rfl := e_some h
      refine r1 [] ?_
      exact ⟨rfl, rfl⟩
    ·
      replace h := e_f h hc16
      refine kwp_skip ?_
      refine kn_then ?_
      refine kwp_seq ?_
      refine kwp_seq ?_
      refine kwp_region ?_
      refine kd (v_mv) ?_
      refine kd (v_len Tryd.runUnderlying51) ?_
      refine kd (v_cmp) ?_
      refine kops_nil ?_
      refine kn_then ?_
      refine kwp_cond rfl (fun hc17 => ?_) (fun hc17 => ?_)
      ·
        replace h := e_t h hc17
        refine kwp_seq ?_
        refine kwp_region ?_
        obtain ⟨v19, hv18, h⟩ := e_bind h
        refine kk (n_call Tryd.call19 (w_laws_alive hv18) ?_)
        rintro _ _ ⟨rfl, rfl⟩
        refine kd (v_as) ?_
        refine kops_nil ?_
        refine kn_then ?_
        refine kwp_ret ?_
        refine kr_then ?_
        obtain rfl := e_some h
        refine r1 [] ?_
        exact ⟨rfl, rfl⟩
      ·
        replace h := e_f h hc17
        refine kwp_skip ?_
        refine kn_then ?_
        refine kwp_seq ?_
        refine kwp_region ?_
        refine kd (v_ldB Tryd.isAgg25 Tryd.sizeOf25) ?_
        obtain ⟨v22, hv21, h⟩ := e_bind h
        refine kk (n_call Tryd.call49 (w_impl_TreeLegs q51a v4.legs.length q51c hv21) ?_)
        rintro _ _ ⟨q23a, q23c, rfl, rfl⟩
        refine kd (v_as) ?_
        refine kops_nil ?_
        refine kn_then ?_
        refine kwp_seq ?_
        refine kwp_region ?_
        refine kd (v_as) ?_
        refine kops_nil ?_
        refine kn_then ?_
        refine kwp_seq ?_
        refine kwp_seq ?_
        refine kwp_region ?_
        refine kd (v_as) ?_
        refine kops_nil ?_
        refine kn_then ?_
        refine kwp_cutO (inv := []) (fun (z : Bool) (y : Unit) => [(6, .bool z)]) (fun (z : Bool) (y : Unit) => []) (fun _ _ => True) h ?_ ?_
        · intro t27 h25 g26
          refine kwp_block ?_
          refine kwp_loopE (inv := [(3, .pointer (some p3_6)), (4, .slice q9a v8.length q9c), (5, .slice q23a v22.length q23c)]) (fun (z : Bool × Int) (y : Unit) => [(6, .bool z.1), (7, .int .i64 z.2)]) (fun (z : Bool × Int) (y : Unit) => (⟨.pointer (some p3_6), 2, [[.int .i64 v4.st, .slice q51a v4.legs.length q51c]]⟩ :: ⟨.slice q51a v4.legs.length q51c, 5, v4.legs.map encLeg⟩ :: ⟨.slice q9a v8.length q9c, 1, q9R.map encRow⟩ :: ⟨.slice q23a v22.length q23c, 1, v22.map encI⟩ :: (rowsC q9R))) (fun _ _ => True) h25 ⟨(), hd_mk trivial⟩ ?_
          intro z32 y33 b30 _ h31
          obtain ⟨found28, k29⟩ := z32
          unfold p_laws_FnTreesAll_L0 at h31
          refine kwp_seq ?_
          refine kwp_seq ?_
          refine kwp_region ?_
          refine kd (v_mv) ?_
          refine kd (v_mv) ?_
          refine kd (v_len Tryd.runUnderlying51) ?_
          refine kd (v_cmp) ?_
          refine kops_nil ?_
          refine kn_then ?_
          refine kwp_cond rfl (fun hc34 => ?_) (fun hc34 => ?_)
          ·
            replace h31 := e_t h31 hc34
            refine kwp_skip ?_
            refine kn_then ?_
            refine kwp_seq ?_
            refine kwp_block ?_
            refine kwp_seq ?_
            refine kwp_region ?_
            refine kk (n_lit (enc := encLeg) [] ([] : List Leg) Tryd.runUnderlying23 Tryd.sizeOf48 Tryd.zeroValue48 (fun a35 => ?_))
            refine kd (v_as) ?_
            refine kops_nil ?_
            refine kn_then ?_
            refine kwp_seq ?_
            refine kwp_seq ?_
            refine kwp_region ?_
            refine kd (v_as) ?_
            refine kops_nil ?_
            refine kn_then ?_
            refine kwp_cutE (inv := [(3, .pointer (some p3_6)), (4, .slice q9a v8.length q9c), (5, .slice q23a v22.length q23c), (6, .bool found28), (7, .int .i64 k29)]) (fun (z : List Leg) (y : Option Addr × Nat × Nat) => [(8, .slice y.1 y.2.1 y.2.2)]) (fun (z : List Leg) (y : Option Addr × Nat × Nat) => (⟨.slice y.1 y.2.1 y.2.2, 5, z.map encLeg⟩ :: ⟨.pointer (some p3_6), 2, [[.int .i64 v4.st, .slice q51a v4.legs.length q51c]]⟩ :: ⟨.slice q51a v4.legs.length q51c, 5, v4.legs.map encLeg⟩ :: ⟨.slice q9a v8.length q9c, 1, q9R.map encRow⟩ :: ⟨.slice q23a v22.length q23c, 1, v22.map encI⟩ :: (rowsC q9R))) (fun _ _ => True) h31 ?_ ?_
            · intro t39 h37
              refine kwp_block ?_
              refine kwp_loopE (inv := [(3, .pointer (some p3_6)), (4, .slice q9a v8.length q9c), (5, .slice q23a v22.length q23c), (6, .bool found28), (7, .int .i64 k29)]) (fun (z : List Leg × Int) (y : Option Addr × Nat × Nat) => [(8, .slice y.1 y.2.1 y.2.2), (9, .int .i64 z.2)]) (fun (z : List Leg × Int) (y : Option Addr × Nat × Nat) => (⟨.slice y.1 y.2.1 y.2.2, 5, z.1.map encLeg⟩ :: ⟨.pointer (some p3_6), 2, [[.int .i64 v4.st, .slice q51a v4.legs.length q51c]]⟩ :: ⟨.slice q51a v4.legs.length q51c, 5, v4.legs.map encLeg⟩ :: ⟨.slice q9a v8.length q9c, 1, q9R.map encRow⟩ :: ⟨.slice q23a v22.length q23c, 1, v22.map encI⟩ :: (rowsC q9R))) (fun _ _ => True) h37 ⟨(some a35, 0, 0), hd_mk trivial⟩ ?_
              intro z44 y45 b42 _ h43
              obtain ⟨legs40, j41⟩ := z44
              obtain ⟨legs40a, legs40n, legs40c⟩ := y45
              refine k_len (c := legs40c) (fun hl46 => ?_)
              subst hl46
              unfold p_laws_FnTreesAll_L1 at h43
              refine kwp_seq ?_
              refine kwp_seq ?_
              refine kwp_region ?_
              refine kd (v_mv) ?_
              refine kd (v_mv) ?_
              refine kd (v_mv) ?_
              obtain ⟨j47, ej47, nj47, h43⟩ := e_idx h43
              refine kd (v_ia ej47 nj47 Tryd.runUnderlying51 Tryd.sizeOf26) ?_
              refine kd (v_ldr nj47 hq9R Tryd.isAgg26) ?_
              refine kd (v_len Tryd.runUnderlying26) ?_
              refine kd (v_cmp) ?_
              refine kops_nil ?_
              refine kn_then ?_
              refine kwp_cond rfl (fun hc48 => ?_) (fun hc48 => ?_)
              ·
                replace h43 := e_t h43 hc48
                refine kwp_skip ?_
                refine kn_then ?_
                refine kwp_seq ?_
                refine kwp_block ?_
                obtain ⟨j49, ej49, nj49, h43⟩ := e_idx h43
                obtain ⟨j50, ej50, nj50, h43⟩ := e_idx h43
                obtain ⟨hz52, h43⟩ := e_need h43
                refine kwp_tree (.quiet 0 (.quiet 1 (.quiet 2 (.quiet 3 (.quiet 4 (.quiet 5 (.quiet 6 (.quiet 7 (.quiet 8 (.quiet 9 (.quiet 10 (.quiet 11 (.one 12 (.one 13 (.quiet 14 .stop))))))))))))))) [] (⟨.slice q51a v4.legs.length q51c, 5, v4.legs.map encLeg⟩ :: ⟨.pointer (some p3_6), 2, [[.int .i64 v4.st, .slice q51a v4.legs.length q51c]]⟩ :: ⟨.slice q9a v8.length q9c, 1, q9R.map encRow⟩ :: (rowsC q9R)) drawMixed (by kernel_rfl) nopan (by (repeat (first | exact Sub.refl _ | exact Sub.nil _ | refine Sub.chunk (by repeat (first | exact Pick.here | apply Pick.there | apply Pick.seg)) (by rfl) ?_ | refine Sub.seg (by repeat (first | exact PickSeg.here | exact PickSeg.all | apply PickSeg.there | apply PickSeg.seg)) ?_ | exact Sub.seg0 (by repeat (first | exact PickSeg.here | exact PickSeg.all | apply PickSeg.there | apply PickSeg.seg)) | apply Sub.assoc))) ?_
                refine kt_d rfl rfl rfl (v_mv) ?_
                refine kt_d rfl rfl rfl (v_fb fa_25_1) ?_
                refine kt_d rfl rfl rfl (v_ldb Tryd.isAgg23) ?_
                refine kt_d rfl rfl rfl (v_mv) ?_
                refine kt_d rfl rfl rfl (v_mv) ?_
                refine kt_d rfl rfl rfl (v_ia ej47 nj47 Tryd.runUnderlying51 Tryd.sizeOf26) ?_
                refine kt_d rfl rfl rfl (v_ldr nj47 hq9R Tryd.isAgg26) ?_
                refine kt_d rfl rfl rfl (v_mv) ?_
                refine kt_d rfl rfl rfl (v_ia ej49 nj49 Tryd.runUnderlying26 Tryd.sizeOf3 (hm := by repeat (first | exact mr hq9R (by first | exact nj47 | (simpa using nj47) | omega | (simp only [List.length_set]; omega)) | exact mr0 hq9R (by first | exact nj47 | (simpa using nj47) | omega | (simp only [List.length_set]; omega)) | apply mt | apply mas | apply ms))) ?_
                refine kt_d rfl rfl rfl (v_ldf nj49 Tryd.isAgg3 (hm := by repeat (first | exact mr hq9R (by first | exact nj47 | (simpa using nj47) | omega | (simp only [List.length_set]; omega)) | exact mr0 hq9R (by first | exact nj47 | (simpa using nj47) | omega | (simp only [List.length_set]; omega)) | apply mt | apply mas | apply ms))) ?_
                refine kt_d rfl rfl rfl (v_ia ej50 nj50 Tryd.runUnderlying23 Tryd.sizeOf48) ?_
                refine kt_d rfl rfl rfl (v_lda (e := [_, _, _, _, _]) nj50 Tryd.isAgg48 Tryd.sizeOf48) ?_
                refine kt_one ?_
                refine kl_k rfl rfl (n_lit (enc := encLeg) [_] ([gx v4.legs j50] : List Leg) Tryd.runUnderlying23 Tryd.sizeOf48 Tryd.zeroValue48 (fun a51 => ?_))
                refine ⟨.inl (by (repeat (first | exact Sub.refl _ | exact Sub.nil _ | refine Sub.chunk (by repeat (first | exact Pick.here | apply Pick.there | apply Pick.seg)) (by rfl) ?_ | refine Sub.seg (by repeat (first | exact PickSeg.here | exact PickSeg.all | apply PickSeg.there | apply PickSeg.seg)) ?_ | exact Sub.seg0 (by repeat (first | exact PickSeg.here | exact PickSeg.all | apply PickSeg.there | apply PickSeg.seg)) | apply Sub.assoc))), ?_⟩
                refine kt_one ?_
                refine kl_k rfl rfl (n_app (enc := encLeg) ok_encLeg hz52 Tryd.underlying23 Tryd.type48 (by decide) (fun a53 c54 => ?_))
                refine ⟨.inl (by (repeat (first | exact Sub.refl _ | exact Sub.nil _ | refine Sub.chunk (by repeat (first | exact Pick.here | apply Pick.there | apply Pick.seg)) (by rfl) ?_ | refine Sub.seg (by repeat (first | exact PickSeg.here | exact PickSeg.all | apply PickSeg.there | apply PickSeg.seg)) ?_ | exact Sub.seg0 (by repeat (first | exact PickSeg.here | exact PickSeg.all | apply PickSeg.there | apply PickSeg.seg)) | apply Sub.assoc))), ?_⟩
                refine kt_d rfl rfl rfl (v_as) ?_
                refine kt_nil ?_
                refine kn_block ?_
                refine kn_then ?_
                refine kwp_region ?_
                refine kd (v_mv) ?_
                refine kd (v_add) ?_
                refine kd (v_as) ?_
                refine kops_nil ?_
                refine kn_then ?_
                obtain rfl := e_some h43
                exact ⟨_, (a53, (legs40 ++ ([gx v4.legs j50] : List Leg)).length, c54), rfl, hd_mk trivial⟩
              ·
                replace h43 := e_f h43 hc48
                refine kwp_exit ?_
                refine ke_then ?_
                obtain rfl := e_some h43
                refine k_out ?_ rfl
                rintro rfl
                refine ke_block ?_
                exact ⟨(legs40a, legs40.length, legs40c), hd_mk trivial⟩
            · intro legs36 y56 _ h57
              obtain ⟨legs36a, legs36n, legs36c⟩ := y56
              refine k_len (c := legs36c) (fun hl58 => ?_)
              subst hl58
              refine kwp_seq ?_
              refine kwp_seq ?_
              refine kwp_cutE (inv := [(3, .pointer (some p3_6)), (4, .slice q9a v8.length q9c), (5, .slice q23a v22.length q23c), (6, .bool found28), (7, .int .i64 k29)]) (fun (z : Bool) (y : Unit) => [(87, .bool z)]) (fun (z : Bool) (y : Unit) => (⟨.pointer (some p3_6), 2, [[.int .i64 v4.st, .slice q51a v4.legs.length q51c]]⟩ :: ⟨.slice q51a v4.legs.length q51c, 5, v4.legs.map encLeg⟩ :: ⟨.slice q9a v8.length q9c, 1, q9R.map encRow⟩ :: ⟨.slice q23a v22.length q23c, 1, v22.map encI⟩ :: (rowsC q9R))) (fun _ _ => True) h57 ?_ ?_
              · intro t62 h60
                refine sp (((legs36.length : Nat) : Int) != (w64 (v4.st - 1))) (fun hb63 => ?_) (fun hb63 => ?_)
                ·
                  replace h60 := e_t h60 hb63
                  refine kwp_tree (.quiet 0 (.quiet 1 (.quiet 2 (.quiet 3 (.quiet 4 (.quiet 5 (.quiet 6 (.quiet 7 (.quiet 8 (.quiet 9 (.quiet 10 (.one 11 (.quiet 12 (.quiet 13 (.quiet 14 (.quiet 15 (.quiet 16 (.quiet 17 (.quiet 18 (.quiet 19 (.quiet 20 (.quiet 21 (.quiet 22 (.quiet 23 (.quiet 24 (.quiet 25 (.quiet 26 (.one 27 (.quiet 28 (.quiet 29 .stop)))))))))))))))))))))))))))))) [] [⟨.pointer (some p3_6), 2, [[.int .i64 v4.st, .slice q51a v4.legs.length q51c]]⟩] drawMixed (by kernel_rfl) nopan (by (repeat (first | exact Sub.refl _ | exact Sub.nil _ | refine Sub.chunk (by repeat (first | exact Pick.here | apply Pick.there | apply Pick.seg)) (by rfl) ?_ | refine Sub.seg (by repeat (first | exact PickSeg.here | exact PickSeg.all | apply PickSeg.there | apply PickSeg.seg)) ?_ | exact Sub.seg0 (by repeat (first | exact PickSeg.here | exact PickSeg.all | apply PickSeg.there | apply PickSeg.seg)) | apply Sub.assoc))) ?_
                  refine kt_d rfl rfl rfl (v_mv) ?_
                  refine kt_d rfl rfl rfl (v_len Tryd.runUnderlying23) ?_
                  refine kt_d rfl rfl rfl (v_fb fa_25_0) ?_
                  refine kt_d rfl rfl rfl (v_ldb Tryd.isAgg3) ?_
                  refine kt_d rfl rfl rfl (v_sub) ?_
                  refine kt_d rfl rfl rfl (v_cmp) ?_
                  refine kt_d rfl rfl rfl (v_mv) ?_
                  refine kt_skip rfl rfl rfl rfl hb63 ?_
                  refine kt_skip rfl rfl rfl rfl hb63 ?_
                  refine kt_skip rfl rfl rfl rfl hb63 ?_
                  refine kt_skip rfl rfl rfl rfl hb63 ?_
                  refine kt_one ?_
                  refine kl_skip rfl rfl rfl rfl hb63 (by (repeat (first | exact Sub.refl _ | exact Sub.nil _ | refine Sub.chunk (by repeat (first | exact Pick.here | apply Pick.there | apply Pick.seg)) (by rfl) ?_ | refine Sub.seg (by repeat (first | exact PickSeg.here | exact PickSeg.all | apply PickSeg.there | apply PickSeg.seg)) ?_ | exact Sub.seg0 (by repeat (first | exact PickSeg.here | exact PickSeg.all | apply PickSeg.there | apply PickSeg.seg)) | apply Sub.assoc))) ?_
                  refine kt_skip rfl rfl rfl rfl hb63 ?_
                  refine kt_d rfl rfl rfl (v_pt hb63) ?_
                  refine kt_d rfl rfl rfl (v_mv) ?_
                  refine kt_skip rfl rfl rfl rfl rfl ?_
                  refine kt_skip rfl rfl rfl rfl rfl ?_
                  refine kt_skip rfl rfl rfl rfl rfl ?_
                  refine kt_skipU rfl rfl rfl rfl ?_
                  refine kt_skipU rfl rfl rfl rfl ?_
                  refine kt_skipU rfl rfl rfl rfl ?_
                  refine kt_skipU rfl rfl rfl rfl ?_
                  refine kt_skipU rfl rfl rfl rfl ?_
                  refine kt_skipU rfl rfl rfl rfl ?_
                  refine kt_skipU rfl rfl rfl rfl ?_
                  refine kt_skipU rfl rfl rfl rfl ?_
                  refine kt_skipU rfl rfl rfl rfl ?_
                  refine kt_one ?_
                  refine kl_skipU rfl rfl rfl rfl (by (repeat (first | exact Sub.refl _ | exact Sub.nil _ | refine Sub.chunk (by repeat (first | exact Pick.here | apply Pick.there | apply Pick.seg)) (by rfl) ?_ | refine Sub.seg (by repeat (first | exact PickSeg.here | exact PickSeg.all | apply PickSeg.there | apply PickSeg.seg)) ?_ | exact Sub.seg0 (by repeat (first | exact PickSeg.here | exact PickSeg.all | apply PickSeg.there | apply PickSeg.seg)) | apply Sub.assoc))) ?_
                  refine kt_skip rfl rfl rfl rfl rfl ?_
                  refine kt_d rfl rfl rfl (v_pt rfl) ?_
                  refine kt_nil ?_
                  refine kn_then ?_
                  obtain rfl := e_some h60
                  exact ⟨(), hd_mk trivial⟩
                ·
                  replace h60 := e_f h60 hb63
                  obtain ⟨v65, hv64, h60⟩ := e_bind h60
                  refine sp (v65 != 1) (fun hb67 => ?_) (fun hb67 => ?_)
                  ·
                    replace h60 := e_t h60 hb67
                    refine kwp_tree (.quiet 0 (.quiet 1 (.quiet 2 (.quiet 3 (.quiet 4 (.quiet 5 (.quiet 6 (.quiet 7 (.quiet 8 (.quiet 9 (.quiet 10 (.one 11 (.quiet 12 (.quiet 13 (.quiet 14 (.quiet 15 (.quiet 16 (.quiet 17 (.quiet 18 (.quiet 19 (.quiet 20 (.quiet 21 (.quiet 22 (.quiet 23 (.quiet 24 (.quiet 25 (.quiet 26 (.one 27 (.quiet 28 (.quiet 29 .stop)))))))))))))))))))))))))))))) [] [⟨.pointer (some p3_6), 2, [[.int .i64 v4.st, .slice q51a v4.legs.length q51c]]⟩] drawMixed (by kernel_rfl) nopan (by (repeat (first | exact Sub.refl _ | exact Sub.nil _ | refine Sub.chunk (by repeat (first | exact Pick.here | apply Pick.there | apply Pick.seg)) (by rfl) ?_ | refine Sub.seg (by repeat (first | exact PickSeg.here | exact PickSeg.all | apply PickSeg.there | apply PickSeg.seg)) ?_ | exact Sub.seg0 (by repeat (first | exact PickSeg.here | exact PickSeg.all | apply PickSeg.there | apply PickSeg.seg)) | apply Sub.assoc))) ?_
                    refine kt_d rfl rfl rfl (v_mv) ?_
                    refine kt_d rfl rfl rfl (v_len Tryd.runUnderlying23) ?_
                    refine kt_d rfl rfl rfl (v_fb fa_25_0) ?_
                    refine kt_d rfl rfl rfl (v_ldb Tryd.isAgg3) ?_
                    refine kt_d rfl rfl rfl (v_sub) ?_
                    refine kt_d rfl rfl rfl (v_cmp) ?_
                    refine kt_d rfl rfl rfl (v_mv) ?_
                    refine kt_gv rfl rfl rfl rfl hb63 (v_fb fa_25_0) ?_
                    refine kt_gv rfl rfl rfl rfl hb63 (v_ldb Tryd.isAgg3) ?_
                    refine kt_gv rfl rfl rfl rfl hb63 (v_mv) ?_
                    refine kt_gv rfl rfl rfl rfl hb63 (v_bd [(0, _), (1, _)] [_, _] Tryd.zeroValue25 Tryd.runUnderlying25 pl_25) ?_
                    refine kt_one ?_
                    refine kl_gk rfl rfl rfl rfl hb63 (n_call Tryd.call30 (w_impl_PartsMany legs36a legs36.length legs36c hv64) ?_)
                    rintro _ _ ⟨rfl, rfl⟩
                    refine ⟨.inl (by (repeat (first | exact Sub.refl _ | exact Sub.nil _ | refine Sub.chunk (by repeat (first | exact Pick.here | apply Pick.there | apply Pick.seg)) (by rfl) ?_ | refine Sub.seg (by repeat (first | exact PickSeg.here | exact PickSeg.all | apply PickSeg.there | apply PickSeg.seg)) ?_ | exact Sub.seg0 (by repeat (first | exact PickSeg.here | exact PickSeg.all | apply PickSeg.there | apply PickSeg.seg)) | apply Sub.assoc))), ?_⟩
                    refine kt_gv rfl rfl rfl rfl hb63 (v_cmp) ?_
                    refine kt_d rfl rfl rfl (v_pf hb63) ?_
                    refine kt_d rfl rfl rfl (v_mv) ?_
                    refine kt_skip rfl rfl rfl rfl hb67 ?_
                    refine kt_skip rfl rfl rfl rfl hb67 ?_
                    refine kt_skip rfl rfl rfl rfl hb67 ?_
                    refine kt_skipU rfl rfl rfl rfl ?_
                    refine kt_skipU rfl rfl rfl rfl ?_
                    refine kt_skipU rfl rfl rfl rfl ?_
                    refine kt_skipU rfl rfl rfl rfl ?_
                    refine kt_skipU rfl rfl rfl rfl ?_
                    refine kt_skipU rfl rfl rfl rfl ?_
                    refine kt_skipU rfl rfl rfl rfl ?_
                    refine kt_skipU rfl rfl rfl rfl ?_
                    refine kt_skipU rfl rfl rfl rfl ?_
                    refine kt_one ?_
                    refine kl_skipU rfl rfl rfl rfl (by (repeat (first | exact Sub.refl _ | exact Sub.nil _ | refine Sub.chunk (by repeat (first | exact Pick.here | apply Pick.there | apply Pick.seg)) (by rfl) ?_ | refine Sub.seg (by repeat (first | exact PickSeg.here | exact PickSeg.all | apply PickSeg.there | apply PickSeg.seg)) ?_ | exact Sub.seg0 (by repeat (first | exact PickSeg.here | exact PickSeg.all | apply PickSeg.there | apply PickSeg.seg)) | apply Sub.assoc))) ?_
                    refine kt_skip rfl rfl rfl rfl hb67 ?_
                    refine kt_d rfl rfl rfl (v_pt hb67) ?_
                    refine kt_nil ?_
                    refine kn_then ?_
                    obtain rfl := e_some h60
                    exact ⟨(), hd_mk trivial⟩
                  ·
                    replace h60 := e_f h60 hb67
                    refine sp (decide (0 < k29)) (fun hb68 => ?_) (fun hb68 => ?_)
                    ·
                      replace h60 := e_t h60 hb68
                      obtain ⟨j69, ej69, nj69, h60⟩ := e_idx h60
                      obtain ⟨j70, ej70, nj70, h60⟩ := e_idx h60
                      obtain ⟨v72, hv71, h60⟩ := e_bind h60
                      refine kwp_tree (.quiet 0 (.quiet 1 (.quiet 2 (.quiet 3 (.quiet 4 (.quiet 5 (.quiet 6 (.quiet 7 (.quiet 8 (.quiet 9 (.quiet 10 (.one 11 (.quiet 12 (.quiet 13 (.quiet 14 (.quiet 15 (.quiet 16 (.quiet 17 (.quiet 18 (.quiet 19 (.quiet 20 (.quiet 21 (.quiet 22 (.quiet 23 (.quiet 24 (.quiet 25 (.quiet 26 (.one 27 (.quiet 28 (.quiet 29 .stop)))))))))))))))))))))))))))))) [] (⟨.pointer (some p3_6), 2, [[.int .i64 v4.st, .slice q51a v4.legs.length q51c]]⟩ :: ⟨.slice q9a v8.length q9c, 1, q9R.map encRow⟩ :: (rowsC q9R)) drawMixed (by kernel_rfl) nopan (by (repeat (first | exact Sub.refl _ | exact Sub.nil _ | refine Sub.chunk (by repeat (first | exact Pick.here | apply Pick.there | apply Pick.seg)) (by rfl) ?_ | refine Sub.seg (by repeat (first | exact PickSeg.here | exact PickSeg.all | apply PickSeg.there | apply PickSeg.seg)) ?_ | exact Sub.seg0 (by repeat (first | exact PickSeg.here | exact PickSeg.all | apply PickSeg.there | apply PickSeg.seg)) | apply Sub.assoc))) ?_
                      refine kt_d rfl rfl rfl (v_mv) ?_
                      refine kt_d rfl rfl rfl (v_len Tryd.runUnderlying23) ?_
                      refine kt_d rfl rfl rfl (v_fb fa_25_0) ?_
                      refine kt_d rfl rfl rfl (v_ldb Tryd.isAgg3) ?_
                      refine kt_d rfl rfl rfl (v_sub) ?_
                      refine kt_d rfl rfl rfl (v_cmp) ?_
                      refine kt_d rfl rfl rfl (v_mv) ?_
                      refine kt_gv rfl rfl rfl rfl hb63 (v_fb fa_25_0) ?_
                      refine kt_gv rfl rfl rfl rfl hb63 (v_ldb Tryd.isAgg3) ?_
                      refine kt_gv rfl rfl rfl rfl hb63 (v_mv) ?_
                      refine kt_gv rfl rfl rfl rfl hb63 (v_bd [(0, _), (1, _)] [_, _] Tryd.zeroValue25 Tryd.runUnderlying25 pl_25) ?_
                      refine kt_one ?_
                      refine kl_gk rfl rfl rfl rfl hb63 (n_call Tryd.call30 (w_impl_PartsMany legs36a legs36.length legs36c hv64) ?_)
                      rintro _ _ ⟨rfl, rfl⟩
                      refine ⟨.inl (by (repeat (first | exact Sub.refl _ | exact Sub.nil _ | refine Sub.chunk (by repeat (first | exact Pick.here | apply Pick.there | apply Pick.seg)) (by rfl) ?_ | refine Sub.seg (by repeat (first | exact PickSeg.here | exact PickSeg.all | apply PickSeg.there | apply PickSeg.seg)) ?_ | exact Sub.seg0 (by repeat (first | exact PickSeg.here | exact PickSeg.all | apply PickSeg.there | apply PickSeg.seg)) | apply Sub.assoc))), ?_⟩
                      refine kt_gv rfl rfl rfl rfl hb63 (v_cmp) ?_
                      refine kt_d rfl rfl rfl (v_pf hb63) ?_
                      refine kt_d rfl rfl rfl (v_mv) ?_
                      refine kt_gv rfl rfl rfl rfl hb67 (v_mv) ?_
                      refine kt_gv rfl rfl rfl rfl hb67 (v_cmp) ?_
                      refine kt_gv rfl rfl rfl rfl hb67 (v_mv) ?_
                      refine kt_gv rfl rfl rfl rfl hb68 (v_mv) ?_
                      refine kt_gv rfl rfl rfl rfl hb68 (v_mv) ?_
                      refine kt_gv rfl rfl rfl rfl hb68 (v_ia ej69 nj69 Tryd.runUnderlying51 Tryd.sizeOf26) ?_
                      refine kt_gv rfl rfl rfl rfl hb68 (v_ldr nj69 hq9R Tryd.isAgg26) ?_
                      refine kt_gv rfl rfl rfl rfl hb68 (v_mv) ?_
                      refine kt_gv rfl rfl rfl rfl hb68 (v_mv) ?_
                      refine kt_gv rfl rfl rfl rfl hb68 (v_sub) ?_
                      refine kt_gv rfl rfl rfl rfl hb68 (v_ia ej70 nj70 Tryd.runUnderlying51 Tryd.sizeOf26) ?_
                      refine kt_gv rfl rfl rfl rfl hb68 (v_ldr nj70 hq9R Tryd.isAgg26) ?_
                      refine kt_one ?_
                      refine kl_gk rfl rfl rfl rfl hb68 (n_call Tryd.call50 (w_laws_sameInts ((gx q9R j69).a) ((gx v8 j69).length) ((gx q9R j69).c) ((gx q9R j70).a) ((gx v8 j70).length) ((gx q9R j70).c) hv71) ?_ (hv := (Views.cons (by repeat (first | exact mr hq9R (by first | exact nj69 | (simpa using nj69) | omega | (simp only [List.length_set]; omega)) | exact mr0 hq9R (by first | exact nj69 | (simpa using nj69) | omega | (simp only [List.length_set]; omega)) | apply mt | apply mas | apply ms)) (View.refl _) (Views.cons (by repeat (first | exact mr hq9R (by first | exact nj70 | (simpa using nj70) | omega | (simp only [List.length_set]; omega)) | exact mr0 hq9R (by first | exact nj70 | (simpa using nj70) | omega | (simp only [List.length_set]; omega)) | apply mt | apply mas | apply ms)) (View.refl _) (Views.nil _)))))
                      rintro _ _ ⟨rfl, rfl⟩
                      refine ⟨.inl (by (repeat (first | exact Sub.refl _ | exact Sub.nil _ | refine Sub.chunk (by repeat (first | exact Pick.here | apply Pick.there | apply Pick.seg)) (by rfl) ?_ | refine Sub.seg (by repeat (first | exact PickSeg.here | exact PickSeg.all | apply PickSeg.there | apply PickSeg.seg)) ?_ | exact Sub.seg0 (by repeat (first | exact PickSeg.here | exact PickSeg.all | apply PickSeg.there | apply PickSeg.seg)) | apply Sub.assoc))), ?_⟩
                      refine kt_gv rfl rfl rfl rfl hb67 (v_pt hb68) ?_
                      refine kt_d rfl rfl rfl (v_pf hb67) ?_
                      refine kt_nil ?_
                      refine kn_then ?_
                      obtain rfl := e_some h60
                      exact ⟨(), hd_mk trivial⟩
                    ·
                      replace h60 := e_f h60 hb68
                      refine kwp_tree (.quiet 0 (.quiet 1 (.quiet 2 (.quiet 3 (.quiet 4 (.quiet 5 (.quiet 6 (.quiet 7 (.quiet 8 (.quiet 9 (.quiet 10 (.one 11 (.quiet 12 (.quiet 13 (.quiet 14 (.quiet 15 (.quiet 16 (.quiet 17 (.quiet 18 (.quiet 19 (.quiet 20 (.quiet 21 (.quiet 22 (.quiet 23 (.quiet 24 (.quiet 25 (.quiet 26 (.one 27 (.quiet 28 (.quiet 29 .stop)))))))))))))))))))))))))))))) [] [⟨.pointer (some p3_6), 2, [[.int .i64 v4.st, .slice q51a v4.legs.length q51c]]⟩] drawMixed (by kernel_rfl) nopan (by (repeat (first | exact Sub.refl _ | exact Sub.nil _ | refine Sub.chunk (by repeat (first | exact Pick.here | apply Pick.there | apply Pick.seg)) (by rfl) ?_ | refine Sub.seg (by repeat (first | exact PickSeg.here | exact PickSeg.all | apply PickSeg.there | apply PickSeg.seg)) ?_ | exact Sub.seg0 (by repeat (first | exact PickSeg.here | exact PickSeg.all | apply PickSeg.there | apply PickSeg.seg)) | apply Sub.assoc))) ?_
                      refine kt_d rfl rfl rfl (v_mv) ?_
                      refine kt_d rfl rfl rfl (v_len Tryd.runUnderlying23) ?_
                      refine kt_d rfl rfl rfl (v_fb fa_25_0) ?_
                      refine kt_d rfl rfl rfl (v_ldb Tryd.isAgg3) ?_
                      refine kt_d rfl rfl rfl (v_sub) ?_
                      refine kt_d rfl rfl rfl (v_cmp) ?_
                      refine kt_d rfl rfl rfl (v_mv) ?_
                      refine kt_gv rfl rfl rfl rfl hb63 (v_fb fa_25_0) ?_
                      refine kt_gv rfl rfl rfl rfl hb63 (v_ldb Tryd.isAgg3) ?_
                      refine kt_gv rfl rfl rfl rfl hb63 (v_mv) ?_
                      refine kt_gv rfl rfl rfl rfl hb63 (v_bd [(0, _), (1, _)] [_, _] Tryd.zeroValue25 Tryd.runUnderlying25 pl_25) ?_
                      refine kt_one ?_
                      refine kl_gk rfl rfl rfl rfl hb63 (n_call Tryd.call30 (w_impl_PartsMany legs36a legs36.length legs36c hv64) ?_)
                      rintro _ _ ⟨rfl, rfl⟩
                      refine ⟨.inl (by (repeat (first | exact Sub.refl _ | exact Sub.nil _ | refine Sub.chunk (by repeat (first | exact Pick.here | apply Pick.there | apply Pick.seg)) (by rfl) ?_ | refine Sub.seg (by repeat (first | exact PickSeg.here | exact PickSeg.all | apply PickSeg.there | apply PickSeg.seg)) ?_ | exact Sub.seg0 (by repeat (first | exact PickSeg.here | exact PickSeg.all | apply PickSeg.there | apply PickSeg.seg)) | apply Sub.assoc))), ?_⟩
                      refine kt_gv rfl rfl rfl rfl hb63 (v_cmp) ?_
                      refine kt_d rfl rfl rfl (v_pf hb63) ?_
                      refine kt_d rfl rfl rfl (v_mv) ?_
                      refine kt_gv rfl rfl rfl rfl hb67 (v_mv) ?_
                      refine kt_gv rfl rfl rfl rfl hb67 (v_cmp) ?_
                      refine kt_gv rfl rfl rfl rfl hb67 (v_mv) ?_
                      refine kt_skip rfl rfl rfl rfl hb68 ?_
                      refine kt_skip rfl rfl rfl rfl hb68 ?_
                      refine kt_skip rfl rfl rfl rfl hb68 ?_
                      refine kt_skip rfl rfl rfl rfl hb68 ?_
                      refine kt_skip rfl rfl rfl rfl hb68 ?_
                      refine kt_skip rfl rfl rfl rfl hb68 ?_
                      refine kt_skip rfl rfl rfl rfl hb68 ?_
                      refine kt_skip rfl rfl rfl rfl hb68 ?_
                      refine kt_skip rfl rfl rfl rfl hb68 ?_
                      refine kt_one ?_
                      refine kl_skip rfl rfl rfl rfl hb68 (by (repeat (first | exact Sub.refl _ | exact Sub.nil _ | refine Sub.chunk (by repeat (first | exact Pick.here | apply Pick.there | apply Pick.seg)) (by rfl) ?_ | refine Sub.seg (by repeat (first | exact PickSeg.here | exact PickSeg.all | apply PickSeg.there | apply PickSeg.seg)) ?_ | exact Sub.seg0 (by repeat (first | exact PickSeg.here | exact PickSeg.all | apply PickSeg.there | apply PickSeg.seg)) | apply Sub.assoc))) ?_
                      refine kt_gv rfl rfl rfl rfl hb67 (v_pf hb68) ?_
                      refine kt_d rfl rfl rfl (v_pf hb67) ?_
                      refine kt_nil ?_
                      refine kn_then ?_
                      obtain rfl := e_some h60
                      exact ⟨(), hd_mk trivial⟩
              · intro x59 y75 _ h76
                refine kn_then ?_
                refine kwp_cond rfl (fun hc77 => ?_) (fun hc77 => ?_)
                ·
                  replace h76 := e_t h76 hc77
                  refine kwp_seq ?_
                  refine kwp_region ?_
                  refine kd (v_as) ?_
                  refine kops_nil ?_
                  refine kn_then ?_
                  refine kwp_ret ?_
                  refine kr_then ?_
                  refine kr_block ?_
                  refine kr_then ?_
                  refine kr_then ?_
                  obtain rfl := e_some h76
                  refine k_out ?_ rfl
                  rintro rfl
                  refine kr_block ?_
                  refine kr_then ?_
                  refine kr_then ?_
                  obtain rfl := e_some g26
                  refine r1 [] ?_
                  exact ⟨rfl, rfl⟩
                ·
                  replace h76 := e_f h76 hc77
                  refine kwp_skip ?_
                  refine kn_then ?_
                  refine kwp_region ?_
                  refine kd (v_mv) ?_
                  refine kd (v_mv) ?_
                  refine kops_split 89 rfl (fun hb78 => ?_) (fun hb78 => ?_)
                  ·
                    replace h76 := e_t h76 hb78
                    refine kskip hb78 ?_
                    refine kskip hb78 ?_
                    refine kskip hb78 ?_
                    refine kskip hb78 ?_
                    refine kskip hb78 ?_
                    refine kskip hb78 ?_
                    refine kd (v_pt hb78) ?_
                    refine kd (v_as) ?_
                    refine kops_nil ?_
                    refine kn_block ?_
                    refine kn_then ?_
                    refine kwp_region ?_
                    refine kd (v_mv) ?_
                    refine kd (v_add) ?_
                    refine kd (v_as) ?_
                    refine kops_nil ?_
                    refine kn_then ?_
                    obtain rfl := e_some h76
                    exact ⟨_, (), rfl, hd_mk trivial⟩
                  ·
                    replace h76 := e_f h76 hb78
                    refine kgd hb78 (v_mv) ?_
                    refine kgd hb78 (v_mv) ?_
                    obtain ⟨j79, ej79, nj79, h76⟩ := e_idx h76
                    refine kgd hb78 (v_ia ej79 nj79 Tryd.runUnderlying51 Tryd.sizeOf26) ?_
                    refine kgd hb78 (v_ldr nj79 hq9R Tryd.isAgg26) ?_
                    refine kgd hb78 (v_mv) ?_
                    obtain ⟨v81, hv80, h76⟩ := e_bind h76
                    refine kgk hb78 (n_call Tryd.call50 (w_laws_sameInts ((gx q9R j79).a) ((gx v8 j79).length) ((gx q9R j79).c) q23a v22.length q23c hv80) ?_ (hv := (Views.cons (by repeat (first | exact mr hq9R (by first | exact nj79 | (simpa using nj79) | omega | (simp only [List.length_set]; omega)) | exact mr0 hq9R (by first | exact nj79 | (simpa using nj79) | omega | (simp only [List.length_set]; omega)) | apply mt | apply mas | apply ms)) (View.refl _) (Views.cons (by repeat (first | exact mh | apply mt | apply mas | apply ms)) (View.refl _) (Views.nil _)))))
                    rintro _ _ ⟨rfl, rfl⟩
                    refine kd (v_pf hb78) ?_
                    refine kd (v_as) ?_
                    refine kops_nil ?_
                    refine kn_block ?_
                    refine kn_then ?_
                    refine kwp_region ?_
                    refine kd (v_mv) ?_
                    refine kd (v_add) ?_
                    refine kd (v_as) ?_
                    refine kops_nil ?_
                    refine kn_then ?_
                    obtain rfl := e_some h76
                    exact ⟨_, (), rfl, hd_mk trivial⟩
          ·
            replace h31 := e_f h31 hc34
            refine kwp_exit ?_
            refine ke_then ?_
            obtain rfl := e_some h31
            refine k_out ?_ rfl
            rintro rfl
            refine ke_block ?_
            exact ⟨_, (), rfl, hd_mk trivial⟩
        · intro found24 y84 _ h85
          refine kn_then ?_
          refine kwp_seq ?_
          refine kwp_region ?_
          refine kd (v_mv) ?_
          refine kd (v_as) ?_
          refine kops_nil ?_
          refine kn_then ?_
          refine kwp_ret ?_
          obtain rfl := e_some h85
          refine r1 [] ?_
          exact ⟨rfl, rfl⟩

end Go.Proofs.YtnibfmofkamjoaaDoor
