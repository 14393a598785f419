/- What the plain programs return, the functions of the program return; no condition. -/
import Derived.Test.YtnibfmofkamjoaaDoorQ4Det
import Derived.Test.YtnibfmofkamjoaaDoorFa
import Derived.Test.YtnibfmofkamjoaaDoorVbx
import Derived.Test.YtnibfmofkamjoaaDoorVbt
import Derived.Test.YtnibfmofkamjoaaDoorVbd
import Derived.Test.YtnibfmofkamjoaaDoorVbc
namespace Go.Proofs.YtnibfmofkamjoaaDoor
open Go
set_option linter.unusedVariables false
set_option linter.unusedSimpArgs false

set_option maxRecDepth 20000 in
theorem w_spec_DrawDet (code0a : Option Addr) (code0n : Nat) (code0c : Nat) {code0 : List UInt8} {r : List (List Int)} (h : p_spec_DrawDet code0 = some r) :
    Triple Tryd.prog 63 [.slice code0a code0n code0c] [⟨.slice code0a code0n code0c, 1, code0.map encB⟩] [] (fun v ch => ∃ (w0a : Option Addr) (w0c : Nat) (w0R : List Row), v = .slice w0a r.length w0c ∧ nums w0R = r ∧ ch = (⟨.slice w0a r.length w0c, 1, w0R.map encRow⟩ :: (rowsC w0R))) := by
  refine triple_start 6 Tryd.func63 Tryd.ntmps63 rfl rfl (fun w0 => ?_)
  refine k_len (c := code0c) (fun hl1 => ?_)
  subst hl1
  unfold p_spec_DrawDet at h
  refine kwp_seq ?_
  refine kwp_region ?_
  refine kops_nilM (fun R2 hR2 => ?_)
  refine kd (v_as) ?_
  refine kops_nil ?_
  refine kn_then ?_
  refine kwp_seq ?_
  refine kwp_region ?_
  refine kd (v_mv) ?_
  obtain ⟨v4, hv3, h⟩ := e_bind h
  refine kk (n_call Tryd.call68 (w_spec_l20Open code0a code0.length code0c hv3) ?_)
  rintro _ _ ⟨q5p, q50a, q50c, rfl, hvwq5, rfl⟩
  obtain ⟨⟨v7, v8⟩, hv6, h⟩ := e_bind h
  refine kk (n_call Tryd.call103 (w_spec_l20Matrix q5p q50a v4.b.length q50c hv6) ?_ (hv := (Views.cons (by repeat (first | exact mh | apply mt | apply mas | apply ms)) hvwq5 (Views.nil _))))
  rintro _ _ ⟨q9a, q9c, q9R, rfl, hq9R, rfl⟩
  refine kd (v_as) ?_
  refine kops_nil ?_
  refine kn_then ?_
  refine kwp_ret ?_
  obtain rfl := e_some h
  refine r1 (⟨.slice q9a v7.length q9c, 1, q9R.map encRow⟩ :: (rowsC q9R)) ?_
  exact ⟨q9a, q9c, q9R, rfl, hq9R, rfl⟩

set_option maxRecDepth 20000 in
set_option maxHeartbeats 2000000 in
theorem w_laws_FnDet (code0a : Option Addr) (code0n : Nat) (code0c : Nat) {code0 : List UInt8} {r : Bool} (h : p_laws_FnDet code0 = some r) :
    Triple Tryd.prog 14 [.slice code0a code0n code0c] [⟨.slice code0a code0n code0c, 1, code0.map encB⟩, tabC] [] (fun v ch => v = .bool r ∧ ch = []) := by
  refine triple_start 122 Tryd.func14 Tryd.ntmps14 rfl rfl (fun w0 => ?_)
  refine k_len (c := code0c) (fun hl1 => ?_)
  subst hl1
  unfold p_laws_FnDet at h
  refine kwp_seq ?_
  refine kwp_region ?_
  refine kd (v_as) ?_
  refine kops_nil ?_
  refine kn_then ?_
  refine kwp_seq ?_
  refine kwp_seq ?_
  refine kwp_region ?_
  refine kd (v_mv) ?_
  refine kd (v_len Tryd.runUnderlying22) ?_
  refine kd (v_cmp) ?_
  refine kops_nil ?_
  refine kn_then ?_
  refine kwp_cond rfl (fun hc2 => ?_) (fun hc2 => ?_)
  ·
    replace h := e_t h hc2
    refine kwp_seq ?_
    refine kwp_region ?_
    refine kd (v_as) ?_
    refine kops_nil ?_
    refine kn_then ?_
    refine kwp_ret ?_
    refine kr_then ?_
    obtain rfl := e_some h
    refine r1 [] ?_
    exact ⟨rfl, rfl⟩
  ·
    replace h := e_f h hc2
    refine kwp_skip ?_
    refine kn_then ?_
    refine kwp_seq ?_
    refine kwp_region ?_
    refine kd (v_mv) ?_
    obtain ⟨v4, hv3, h⟩ := e_bind h
    refine kk (n_call Tryd.call63 (w_spec_DrawDet code0a code0.length code0c hv3) ?_)
    rintro _ _ ⟨q5a, q5c, q5R, rfl, hq5R, rfl⟩
    refine kd (v_as) ?_
    refine kops_nil ?_
    refine kn_then ?_
    refine kwp_seq ?_
    refine kwp_region ?_
    refine kd (v_mv) ?_
    obtain ⟨v7, hv6, h⟩ := e_bind h
    refine kk (n_call Tryd.call62 (w_impl_Det q5a v4.length q5c q5R hq5R hv6) ?_)
    rintro _ _ ⟨rfl, rfl⟩
    refine kd (v_as) ?_
    refine kops_nil ?_
    refine kn_then ?_
    refine kwp_seq ?_
    refine kwp_seq ?_
    refine kwp_region ?_
    refine kd (v_mv) ?_
    refine kd (v_mv) ?_
    obtain ⟨v10, hv9, h⟩ := e_bind h
    refine kk (n_call Tryd.call64 (w_spec_Det q5a v4.length q5c q5R hq5R hv9) ?_)
    rintro _ _ ⟨rfl, rfl⟩
    refine kd (v_cmp) ?_
    refine kops_nil ?_
    refine kn_then ?_
    refine kwp_cond rfl (fun hc12 => ?_) (fun hc12 => ?_)
    ·
      replace h := e_t h hc12
      refine kwp_seq ?_
      refine kwp_region ?_
      refine kd (v_as) ?_
      refine kops_nil ?_
      refine kn_then ?_
      refine kwp_ret ?_
      refine kr_then ?_
      obtain rfl := e_some h
      refine r1 [] ?_
      exact ⟨rfl, rfl⟩
    ·
      replace h := e_f h hc12
      refine kwp_skip ?_
      refine kn_then ?_
      refine kwp_seq ?_
      refine kwp_seq ?_
      refine kwp_region ?_
      refine kd (v_mv) ?_
      obtain ⟨v14, hv13, h⟩ := e_bind h
      refine kk (n_call Tryd.call65 (w_spec_MatrixValid q5a v4.length q5c q5R hq5R hv13) ?_)
      rintro _ _ ⟨rfl, rfl⟩
      refine kd (v_not) ?_
      refine kops_nil ?_
      refine kn_then ?_
      refine kwp_cond rfl (fun hc16 => ?_) (fun hc16 => ?_)
      ·
        replace h := e_t h hc16
        refine kwp_seq ?_
        refine kwp_region ?_
        refine kd (v_mv) ?_
        refine kd (v_cmp) ?_
        refine kd (v_mv) ?_
        refine kops_split 26 rfl (fun hb17 => ?_) (fun hb17 => ?_)
        ·
          replace h := e_t h hb17
          obtain ⟨v19, hv18, h⟩ := e_bind h
          refine kgk hb17 (n_call Tryd.call19 (w_laws_alive hv18) ?_)
          rintro _ _ ⟨rfl, rfl⟩
          refine kd (v_pt hb17) ?_
          refine kd (v_as) ?_
          refine kops_nil ?_
          refine kn_then ?_
          refine kwp_ret ?_
          refine kr_then ?_
          obtain rfl := e_some h
          refine r1 [] ?_
          exact ⟨rfl, rfl⟩
        ·
          replace h := e_f h hb17
          refine kskip hb17 ?_
          refine kd (v_pf hb17) ?_
          refine kd (v_as) ?_
          refine kops_nil ?_
          refine kn_then ?_
          refine kwp_ret ?_
          refine kr_then ?_
          obtain rfl := e_some h
          refine r1 [] ?_
          exact ⟨rfl, rfl⟩
      ·
        replace h := e_f h hc16
        refine kwp_skip ?_
        refine kn_then ?_
        refine kwp_seq ?_
        refine kwp_seq ?_
        refine kwp_region ?_
        refine kd (v_as) ?_
        refine kops_nil ?_
        refine kn_then ?_
        refine kwp_cutO (inv := [(3, .slice q5a v4.length q5c), (4, .int .i64 v7)]) (fun (z : Unit) (y : Unit) => []) (fun (z : Unit) (y : Unit) => (⟨.slice q5a v4.length q5c, 1, q5R.map encRow⟩ :: (rowsC q5R))) (fun _ _ => True) h ?_ ?_
        · intro t23 h21 g22
          refine kwp_block ?_
          refine kwp_loopE (inv := [(3, .slice q5a v4.length q5c), (4, .int .i64 v7)]) (fun (z : Int) (y : Unit) => [(5, .int .i64 z)]) (fun (z : Int) (y : Unit) => (⟨.slice q5a v4.length q5c, 1, q5R.map encRow⟩ :: (rowsC q5R))) (fun _ _ => True) h21 ⟨(), hd_mk trivial⟩ ?_
          intro k24 y28 b25 _ h26
          unfold p_laws_FnDet_L0 at h26
          refine kwp_seq ?_
          refine kwp_seq ?_
          refine kwp_region ?_
          refine kd (v_mv) ?_
          refine kd (v_mv) ?_
          refine kd (v_len Tryd.runUnderlying51) ?_
          refine kd (v_cmp) ?_
          refine kops_nil ?_
          refine kn_then ?_
          refine kwp_cond rfl (fun hc29 => ?_) (fun hc29 => ?_)
          ·
            replace h26 := e_t h26 hc29
            refine kwp_skip ?_
            refine kn_then ?_
            refine kwp_seq ?_
            refine kwp_block ?_
            refine kwp_seq ?_
            refine kwp_region ?_
            refine kd (v_mv) ?_
            obtain ⟨v31, hv30, h26⟩ := e_bind h26
            refine kk (n_call Tryd.call66 (w_laws_copyRows q5a v4.length q5c q5R hq5R hv30) ?_)
            rintro _ _ ⟨q32a, q32c, q32R, rfl, hq32R, rfl⟩
            refine kd (v_as) ?_
            refine kops_nil ?_
            refine kn_then ?_
            refine kwp_seq ?_
            refine kwp_region ?_
            refine kd (v_mv) ?_
            refine kd (v_mv) ?_
            refine kd (v_sub) ?_
            refine kk (n_lit (enc := encI) [] ([] : List Int) Tryd.runUnderlying26 Tryd.sizeOf3 Tryd.zeroValue3 (fun a33 => ?_))
            refine kd (v_mv) ?_
            refine kd (v_mv) ?_
            obtain ⟨j34, ej34, nj34, h26⟩ := e_idx h26
            refine kd (v_ia ej34 nj34 Tryd.runUnderlying51 Tryd.sizeOf26) ?_
            refine kd (v_ldr nj34 hq5R Tryd.isAgg26) ?_
            obtain ⟨hz35, h26⟩ := e_need h26
            refine kk (n_app (enc := encI) ok_encI hz35 Tryd.underlying26 Tryd.type3 (by decide) (fun a36 c37 => ?_) (hm := by repeat (first | exact mr hq5R (by first | exact nj34 | (simpa using nj34) | omega | (simp only [List.length_set]; omega)) | exact mr0 hq5R (by first | exact nj34 | (simpa using nj34) | omega | (simp only [List.length_set]; omega)) | apply mt | apply mas | apply ms)))
            obtain ⟨j38, ej38, nj38, h26⟩ := e_idx h26
            refine kd (v_ia ej38 nj38 Tryd.runUnderlying51 Tryd.sizeOf26) ?_
            refine kk (s_setrow (l := (([] : List Int) ++ (gx v4 j34))) nj38 hq32R Tryd.sizeOf26 (fun R39 hR39 => ?_))
            refine kops_nil ?_
            refine kn_then ?_
            refine kwp_seq ?_
            refine kwp_region ?_
            refine kd (v_mv) ?_
            refine kd (v_mv) ?_
            refine kk (n_lit (enc := encI) [] ([] : List Int) Tryd.runUnderlying26 Tryd.sizeOf3 Tryd.zeroValue3 (fun a40 => ?_))
            refine kd (v_mv) ?_
            refine kd (v_mv) ?_
            refine kd (v_sub) ?_
            obtain ⟨j41, ej41, nj41, h26⟩ := e_idx h26
            refine kd (v_ia ej41 nj41 Tryd.runUnderlying51 Tryd.sizeOf26) ?_
            refine kd (v_ldr nj41 hq5R Tryd.isAgg26) ?_
            obtain ⟨hz42, h26⟩ := e_need h26
            refine kk (n_app (enc := encI) ok_encI hz42 Tryd.underlying26 Tryd.type3 (by decide) (fun a43 c44 => ?_) (hm := by repeat (first | exact mr hq5R (by first | exact nj41 | (simpa using nj41) | omega | (simp only [List.length_set]; omega)) | exact mr0 hq5R (by first | exact nj41 | (simpa using nj41) | omega | (simp only [List.length_set]; omega)) | apply mt | apply mas | apply ms)))
            obtain ⟨j45, ej45, nj45, h26⟩ := e_idx h26
            refine kd (v_ia ej45 nj45 Tryd.runUnderlying51 Tryd.sizeOf26) ?_
            refine kk (s_setrow (l := (([] : List Int) ++ (gx v4 j41))) nj45 hR39 Tryd.sizeOf26 (fun R46 hR46 => ?_))
            refine kops_nil ?_
            refine kn_then ?_
            refine kwp_seq ?_
            refine kwp_seq ?_
            refine kwp_region ?_
            refine kd (v_mv) ?_
            obtain ⟨v48, hv47, h26⟩ := e_bind h26
            refine kk (n_call Tryd.call62 (w_impl_Det q32a v31.length q32c R46 hR46 hv47) ?_)
            rintro _ _ ⟨rfl, rfl⟩
            refine kd (v_mv) ?_
            refine kd (v_neg) ?_
            refine kd (v_cmp) ?_
            refine kops_nil ?_
            refine kn_then ?_
            refine kwp_cond rfl (fun hc50 => ?_) (fun hc50 => ?_)
            ·
              replace h26 := e_t h26 hc50
              refine kwp_seq ?_
              refine kwp_region ?_
              refine kd (v_as) ?_
              refine kops_nil ?_
              refine kn_then ?_
              refine kwp_ret ?_
              refine kr_then ?_
              refine kr_block ?_
              refine kr_then ?_
              refine kr_then ?_
              obtain rfl := e_some h26
              refine k_out ?_ rfl
              rintro rfl
              refine kr_block ?_
              refine kr_then ?_
              refine kr_then ?_
              obtain rfl := e_some g22
              refine r1 [] ?_
              exact ⟨rfl, rfl⟩
            ·
              replace h26 := e_f h26 hc50
              refine kwp_skip ?_
              refine kn_then ?_
              refine kwp_seq ?_
              refine kwp_region ?_
              refine kd (v_mv) ?_
              obtain ⟨v52, hv51, h26⟩ := e_bind h26
              refine kk (n_call Tryd.call66 (w_laws_copyRows q5a v4.length q5c q5R hq5R hv51) ?_)
              rintro _ _ ⟨q53a, q53c, q53R, rfl, hq53R, rfl⟩
              refine kd (v_as) ?_
              refine kops_nil ?_
              refine kn_then ?_
              refine kwp_seq ?_
              refine kwp_region ?_
              refine kd (v_mv) ?_
              refine kd (v_mv) ?_
              refine kd (v_sub) ?_
              refine kk (n_lit (enc := encI) [] ([] : List Int) Tryd.runUnderlying26 Tryd.sizeOf3 Tryd.zeroValue3 (fun a54 => ?_))
              refine kd (v_mv) ?_
              refine kd (v_mv) ?_
              refine kd (v_ia ej34 nj34 Tryd.runUnderlying51 Tryd.sizeOf26) ?_
              refine kd (v_ldr nj34 hq5R Tryd.isAgg26) ?_
              obtain ⟨hz55, h26⟩ := e_need h26
              refine kk (n_app (enc := encI) ok_encI hz55 Tryd.underlying26 Tryd.type3 (by decide) (fun a56 c57 => ?_) (hm := by repeat (first | exact mr hq5R (by first | exact nj34 | (simpa using nj34) | omega | (simp only [List.length_set]; omega)) | exact mr0 hq5R (by first | exact nj34 | (simpa using nj34) | omega | (simp only [List.length_set]; omega)) | apply mt | apply mas | apply ms)))
              obtain ⟨j58, ej58, nj58, h26⟩ := e_idx h26
              refine kd (v_ia ej58 nj58 Tryd.runUnderlying51 Tryd.sizeOf26) ?_
              refine kk (s_setrow (l := (([] : List Int) ++ (gx v4 j34))) nj58 hq53R Tryd.sizeOf26 (fun R59 hR59 => ?_))
              refine kops_nil ?_
              refine kn_then ?_
              refine kwp_seq ?_
              refine kwp_region ?_
              refine kd (v_mv) ?_
              obtain ⟨v61, hv60, h26⟩ := e_bind h26
              refine kk (n_call Tryd.call66 (w_laws_copyRows q5a v4.length q5c q5R hq5R hv60) ?_)
              rintro _ _ ⟨q62a, q62c, q62R, rfl, hq62R, rfl⟩
              refine kd (v_as) ?_
              refine kops_nil ?_
              refine kn_then ?_
              refine kwp_seq ?_
              refine kwp_seq ?_
              refine kwp_region ?_
              refine kd (v_as) ?_
              refine kops_nil ?_
              refine kn_then ?_
              refine kwp_cutE (inv := [(3, .slice q5a v4.length q5c), (4, .int .i64 v7), (5, .int .i64 k24), (7, .slice q53a v52.length q53c), (8, .slice q62a v61.length q62c)]) (fun (z : List (List Int)) (y : List Row) => []) (fun (z : List (List Int)) (y : List Row) => (⟨.slice q62a v61.length q62c, 1, y.map encRow⟩ :: ⟨.slice q5a v4.length q5c, 1, q5R.map encRow⟩ :: ⟨.slice q53a v52.length q53c, 1, R59.map encRow⟩ :: (rowsC y ++ (rowsC q5R ++ (rowsC R59))))) (fun (z : List (List Int)) (y : List Row) => nums y = z ∧ True) h26 ?_ ?_
              · intro t66 h64
                refine kwp_block ?_
                refine kwp_loopE (inv := [(3, .slice q5a v4.length q5c), (4, .int .i64 v7), (5, .int .i64 k24), (7, .slice q53a v52.length q53c), (8, .slice q62a v61.length q62c)]) (fun (z : Int × List (List Int)) (y : List Row) => [(9, .int .i64 z.1)]) (fun (z : Int × List (List Int)) (y : List Row) => (⟨.slice q62a v61.length q62c, 1, y.map encRow⟩ :: ⟨.slice q5a v4.length q5c, 1, q5R.map encRow⟩ :: ⟨.slice q53a v52.length q53c, 1, R59.map encRow⟩ :: (rowsC y ++ (rowsC q5R ++ (rowsC R59))))) (fun (z : Int × List (List Int)) (y : List Row) => nums y = z.2 ∧ True) h64 ⟨q62R, hd_mk ⟨hq62R, trivial⟩⟩ ?_
                intro z71 m68R b69 hp73 h70
                obtain ⟨j67, m68⟩ := z71
                obtain ⟨hm68R, _⟩ := hp73
                refine k_lenM (m := v52.set j58 (([] : List Int) ++ (gx v4 j34))) hR59 (fun hl74 => ?_)
                refine k_lenM (m := m68) hm68R (fun hl75 => ?_)
                unfold p_laws_FnDet_L1 at h70
                refine kwp_seq ?_
                refine kwp_seq ?_
                refine kwp_region ?_
                refine kd (v_mv) ?_
                refine kd (v_mv) ?_
                refine kd (v_len Tryd.runUnderlying51) ?_
                refine kd (v_cmp) ?_
                refine kops_nil ?_
                refine kn_then ?_
                refine kwp_cond rfl (fun hc76 => ?_) (fun hc76 => ?_)
                ·
                  replace h70 := e_t h70 hc76
                  refine kwp_skip ?_
                  refine kn_then ?_
                  refine kwp_seq ?_
                  refine kwp_block ?_
                  obtain ⟨j77, ej77, nj77, h70⟩ := e_idx h70
                  obtain ⟨j78, ej78, nj78, h70⟩ := e_idx h70
                  obtain ⟨j79, ej79, nj79, h70⟩ := e_idx h70
                  obtain ⟨j80, ej80, nj80, h70⟩ := e_idx h70
                  refine kwp_tree (.quiet 0 (.quiet 1 (.quiet 2 (.quiet 3 (.quiet 4 (.quiet 5 (.quiet 6 (.quiet 7 (.quiet 8 (.quiet 9 (.quiet 10 (.quiet 11 (.quiet 12 (.quiet 13 (.quiet 14 (.quiet 15 (.quiet 16 (.quiet 17 (.quiet 18 (.quiet 19 (.quiet 20 (.quiet 21 (.one 22 .stop))))))))))))))))))))))) [22] (⟨.slice q5a v4.length q5c, 1, q5R.map encRow⟩ :: ⟨.slice q62a v61.length q62c, 1, m68R.map encRow⟩ :: (rowsC q5R ++ (rowsC m68R))) drawMixed (by kernel_rfl) nopan (by (repeat (first | exact Sub.refl _ | exact Sub.nil _ | refine Sub.chunk (by repeat (first | exact Pick.here | apply Pick.there | apply Pick.seg)) (by rfl) ?_ | refine Sub.seg (by repeat (first | exact PickSeg.here | exact PickSeg.all | apply PickSeg.there | apply PickSeg.seg)) ?_ | exact Sub.seg0 (by repeat (first | exact PickSeg.here | exact PickSeg.all | apply PickSeg.there | apply PickSeg.seg)) | apply Sub.assoc))) ?_
                  refine kt_d rfl rfl rfl (v_mv) ?_
                  refine kt_d rfl rfl rfl (v_mv) ?_
                  refine kt_d rfl rfl rfl (v_ia ej77 nj77 Tryd.runUnderlying51 Tryd.sizeOf26) ?_
                  refine kt_d rfl rfl rfl (v_ldr nj77 hm68R Tryd.isAgg26) ?_
                  refine kt_d rfl rfl rfl (v_mv) ?_
                  refine kt_d rfl rfl rfl (v_mv) ?_
                  refine kt_d rfl rfl rfl (v_mv) ?_
                  refine kt_d rfl rfl rfl (v_ia ej77 nj77 Tryd.runUnderlying51 Tryd.sizeOf26) ?_
                  refine kt_d rfl rfl rfl (v_ldr nj77 hm68R Tryd.isAgg26) ?_
                  refine kt_d rfl rfl rfl (v_mv) ?_
                  refine kt_d rfl rfl rfl (v_ia ej78 nj78 Tryd.runUnderlying26 Tryd.sizeOf3 (hm := by repeat (first | exact mr hm68R (by first | exact nj77 | (simpa using nj77) | omega | (simp only [List.length_set]; omega)) | exact mr0 hm68R (by first | exact nj77 | (simpa using nj77) | omega | (simp only [List.length_set]; omega)) | apply mt | apply mas | apply ms))) ?_
                  refine kt_d rfl rfl rfl (v_ldf nj78 Tryd.isAgg3 (hm := by repeat (first | exact mr hm68R (by first | exact nj77 | (simpa using nj77) | omega | (simp only [List.length_set]; omega)) | exact mr0 hm68R (by first | exact nj77 | (simpa using nj77) | omega | (simp only [List.length_set]; omega)) | apply mt | apply mas | apply ms))) ?_
                  refine kt_d rfl rfl rfl (v_mv) ?_
                  refine kt_d rfl rfl rfl (v_mv) ?_
                  refine kt_d rfl rfl rfl (v_sub) ?_
                  refine kt_d rfl rfl rfl (v_ia ej79 nj79 Tryd.runUnderlying51 Tryd.sizeOf26) ?_
                  refine kt_d rfl rfl rfl (v_ldr nj79 hq5R Tryd.isAgg26) ?_
                  refine kt_d rfl rfl rfl (v_mv) ?_
                  refine kt_d rfl rfl rfl (v_ia ej80 nj80 Tryd.runUnderlying26 Tryd.sizeOf3 (hm := by repeat (first | exact mr hq5R (by first | exact nj79 | (simpa using nj79) | omega | (simp only [List.length_set]; omega)) | exact mr0 hq5R (by first | exact nj79 | (simpa using nj79) | omega | (simp only [List.length_set]; omega)) | apply mt | apply mas | apply ms))) ?_
                  refine kt_d rfl rfl rfl (v_ldf nj80 Tryd.isAgg3 (hm := by repeat (first | exact mr hq5R (by first | exact nj79 | (simpa using nj79) | omega | (simp only [List.length_set]; omega)) | exact mr0 hq5R (by first | exact nj79 | (simpa using nj79) | omega | (simp only [List.length_set]; omega)) | apply mt | apply mas | apply ms))) ?_
                  refine kt_d rfl rfl rfl (v_add) ?_
                  refine kt_d rfl rfl rfl (v_ia ej78 nj78 Tryd.runUnderlying26 Tryd.sizeOf3 (hm := by repeat (first | exact mr hm68R (by first | exact nj77 | (simpa using nj77) | omega | (simp only [List.length_set]; omega)) | exact mr0 hm68R (by first | exact nj77 | (simpa using nj77) | omega | (simp only [List.length_set]; omega)) | apply mt | apply mas | apply ms))) ?_
                  refine kt_one ?_
                  refine kl_k rfl rfl (s_row (by first | exact nj77 | (simpa using nj77) | omega | (simp only [List.length_set]; omega)) nj78 hm68R Tryd.sizeOf3 (fun R81 hR81 => ?_))
                  refine ⟨.inr ⟨by decide, rfl⟩, ?_⟩
                  refine kt_nil ?_
                  refine kn_block ?_
                  refine kn_then ?_
                  refine kwp_region ?_
                  refine kd (v_mv) ?_
                  refine kd (v_add) ?_
                  refine kd (v_as) ?_
                  refine kops_nil ?_
                  refine kn_then ?_
                  obtain rfl := e_some h70
                  exact ⟨_, R81, rfl, hd_mk ⟨hR81, trivial⟩⟩
                ·
                  replace h70 := e_f h70 hc76
                  refine kwp_exit ?_
                  refine ke_then ?_
                  obtain rfl := e_some h70
                  refine k_out ?_ rfl
                  rintro rfl
                  refine ke_block ?_
                  exact ⟨m68R, hd_mk ⟨hm68R, trivial⟩⟩
              · intro m63 m63R hp85 h84
                obtain ⟨hm63R, _⟩ := hp85
                refine k_lenM (m := v52.set j58 (([] : List Int) ++ (gx v4 j34))) hR59 (fun hl86 => ?_)
                refine k_lenM (m := m63) hm63R (fun hl87 => ?_)
                refine kwp_seq ?_
                refine kwp_region ?_
                refine kd (v_mv) ?_
                obtain ⟨v89, hv88, h84⟩ := e_bind h84
                refine kk (n_call Tryd.call62 (w_impl_Det q53a v52.length q53c R59 hR59 hv88) ?_)
                rintro _ _ ⟨rfl, rfl⟩
                refine kd (v_cmp) ?_
                refine kd (v_mv) ?_
                refine kops_split 107 rfl (fun hb91 => ?_) (fun hb91 => ?_)
                ·
                  replace h84 := e_t h84 hb91
                  refine kskip hb91 ?_
                  refine kskip hb91 ?_
                  refine kskip hb91 ?_
                  refine kops_skipU ?_
                  refine kops_skipU ?_
                  refine kops_skipU ?_
                  refine kops_skipU ?_
                  refine kskip hb91 ?_
                  refine kd (v_pt hb91) ?_
                  refine kops_nil ?_
                  refine kn_then ?_
                  refine kwp_cond_t rfl rfl ?_
                  refine kwp_seq ?_
                  refine kwp_region ?_
                  refine kd (v_as) ?_
                  refine kops_nil ?_
                  refine kn_then ?_
                  refine kwp_ret ?_
                  refine kr_block ?_
                  refine kr_then ?_
                  refine kr_then ?_
                  obtain rfl := e_some h84
                  refine k_out ?_ rfl
                  rintro rfl
                  refine kr_block ?_
                  refine kr_then ?_
                  refine kr_then ?_
                  obtain rfl := e_some g22
                  refine r1 [] ?_
                  exact ⟨rfl, rfl⟩
                ·
                  replace h84 := e_f h84 hb91
                  refine kgd hb91 (v_mv) ?_
                  obtain ⟨v93, hv92, h84⟩ := e_bind h84
                  refine kgk hb91 (n_call Tryd.call67 (w_impl_MatrixValid q62a v61.length q62c m63R hm63R hv92) ?_)
                  rintro _ _ ⟨rfl, rfl⟩
                  refine kgd hb91 (v_mv) ?_
                  refine kops_split 110 rfl (fun hb95 => ?_) (fun hb95 => ?_)
                  ·
                    replace h84 := e_t h84 hb95
                    refine kgd hb95 (v_mv) ?_
                    obtain ⟨v97, hv96, h84⟩ := e_bind h84
                    refine kgk hb95 (n_call Tryd.call62 (w_impl_Det q62a v61.length q62c m63R hm63R hv96) ?_)
                    rintro _ _ ⟨rfl, rfl⟩
                    refine kgd hb95 (v_mv) ?_
                    refine kgd hb95 (v_cmp) ?_
                    refine kgd hb91 (v_pt hb95) ?_
                    refine kd (v_pf hb91) ?_
                    refine kops_nil ?_
                    refine kn_then ?_
                    refine kwp_cond rfl (fun hc99 => ?_) (fun hc99 => ?_)
                    ·
                      replace h84 := e_t h84 hc99
                      refine kwp_seq ?_
                      refine kwp_region ?_
                      refine kd (v_as) ?_
                      refine kops_nil ?_
                      refine kn_then ?_
                      refine kwp_ret ?_
                      refine kr_block ?_
                      refine kr_then ?_
                      refine kr_then ?_
                      obtain rfl := e_some h84
                      refine k_out ?_ rfl
                      rintro rfl
                      refine kr_block ?_
                      refine kr_then ?_
                      refine kr_then ?_
                      obtain rfl := e_some g22
                      refine r1 [] ?_
                      exact ⟨rfl, rfl⟩
                    ·
                      replace h84 := e_f h84 hc99
                      refine kwp_skip ?_
                      refine kn_block ?_
                      refine kn_then ?_
                      refine kwp_region ?_
                      refine kd (v_mv) ?_
                      refine kd (v_add) ?_
                      refine kd (v_as) ?_
                      refine kops_nil ?_
                      refine kn_then ?_
                      obtain rfl := e_some h84
                      exact ⟨_, (), rfl, hd_mk trivial⟩
                  ·
                    replace h84 := e_f h84 hb95
                    refine kskip hb95 ?_
                    refine kskip hb95 ?_
                    refine kskip hb95 ?_
                    refine kskip hb95 ?_
                    refine kgd hb91 (v_pf hb95) ?_
                    refine kd (v_pf hb91) ?_
                    refine kops_nil ?_
                    refine kn_then ?_
                    refine kwp_cond_f rfl rfl ?_
                    refine kwp_skip ?_
                    refine kn_block ?_
                    refine kn_then ?_
                    refine kwp_region ?_
                    refine kd (v_mv) ?_
                    refine kd (v_add) ?_
                    refine kd (v_as) ?_
                    refine kops_nil ?_
                    refine kn_then ?_
                    obtain rfl := e_some h84
                    exact ⟨_, (), rfl, hd_mk trivial⟩
          ·
            replace h26 := e_f h26 hc29
            refine kwp_exit ?_
            refine ke_then ?_
            obtain rfl := e_some h26
            refine k_out ?_ rfl
            rintro rfl
            refine ke_block ?_
            exact ⟨_, (), rfl, hd_mk trivial⟩
        · intro z100 y101 _ h102
          refine kn_then ?_
          refine kwp_seq ?_
          refine kwp_region ?_
          refine kd (v_mv) ?_
          obtain ⟨v104, hv103, h102⟩ := e_bind h102
          refine kk (n_call Tryd.call40 (w_impl_MatrixTurn q5a v4.length q5c q5R hq5R hv103) ?_)
          rintro _ _ ⟨q105a, q105c, q105R, rfl, hq105R, rfl⟩
          obtain ⟨v107, hv106, h102⟩ := e_bind h102
          refine kk (n_call Tryd.call62 (w_impl_Det q105a v104.length q105c q105R hq105R hv106) ?_)
          rintro _ _ ⟨rfl, rfl⟩
          refine kd (v_mv) ?_
          refine kd (v_cmp) ?_
          refine kd (v_as) ?_
          refine kops_nil ?_
          refine kn_then ?_
          refine kwp_ret ?_
          obtain rfl := e_some h102
          refine r1 [] ?_
          exact ⟨rfl, rfl⟩

end Go.Proofs.YtnibfmofkamjoaaDoor
