/- What the plain programs return, the functions of the program return; no condition. -/
import Derived.Test.YtnibfmofkamjoaaDoorZQ
import Derived.Test.YtnibfmofkamjoaaDoorZFa
import Derived.Test.YtnibfmofkamjoaaDoorZVbv
namespace Go.Proofs.YtnibfmofkamjoaaDoor
open Go
set_option linter.unusedVariables false
set_option linter.unusedSimpArgs false

set_option maxRecDepth 20000 in
set_option maxHeartbeats 2000000 in
theorem w_spec_MatrixValid (m0a : Option Addr) (m0n : Nat) (m0c : Nat) (m0R : List Row) {m0 : List (List Int)} (hm0R : nums m0R = m0) {r : Bool} (h : p_spec_MatrixValid m0 = some r) :
    Triple Tryd.prog 65 [.slice m0a m0n m0c] (⟨.slice m0a m0n m0c, 1, m0R.map encRow⟩ :: (rowsC m0R)) [] (fun v ch => v = .bool r ∧ ch = []) := by
  refine triple_start 40 Tryd.func65 Tryd.ntmps65 rfl rfl (fun w0 => ?_)
  refine k_lenM (c := m0c) (m := m0) hm0R (fun hl1 => ?_)
  subst hl1
  unfold p_spec_MatrixValid at h
  refine kwp_seq ?_
  refine kwp_region ?_
  refine kd (v_as) ?_
  refine kops_nil ?_
  refine kn_then ?_
  refine kwp_seq ?_
  refine kwp_seq ?_
  refine kwp_region ?_
  refine kd (v_as) ?_
  refine kops_nil ?_
  refine kn_then ?_
  refine kwp_cutO (inv := [(0, .slice m0a m0.length m0c)]) (fun (z : Unit) (y : Unit) => []) (fun (z : Unit) (y : Unit) => []) (fun _ _ => True) h ?_ ?_
  · intro t4 h2 g3
    refine kwp_block ?_
    refine kwp_loopE (inv := [(0, .slice m0a m0.length m0c)]) (fun (z : Int) (y : Unit) => [(3, .int .i64 z)]) (fun (z : Int) (y : Unit) => []) (fun _ _ => True) h2 ⟨(), hd_mk trivial⟩ ?_
    intro k5 y9 b6 _ h7
    unfold p_spec_MatrixValid_L0 at h7
    refine kwp_seq ?_
    refine kwp_seq ?_
    refine kwp_region ?_
    refine kd (v_mv) ?_
    refine kd (v_mv) ?_
    refine kd (v_len Tryd.runUnderlying51) ?_
    refine kd (v_cmp) ?_
    refine kops_nil ?_
    refine kn_then ?_
    refine kwp_cond rfl (fun hc10 => ?_) (fun hc10 => ?_)
    ·
      replace h7 := e_t h7 hc10
      refine kwp_skip ?_
      refine kn_then ?_
      refine kwp_seq ?_
      refine kwp_block ?_
      refine kwp_seq ?_
      refine kwp_seq ?_
      refine kwp_region ?_
      refine kd (v_mv) ?_
      refine kd (v_mv) ?_
      obtain ⟨j11, ej11, nj11, h7⟩ := e_idx h7
      refine kd (v_ia ej11 nj11 Tryd.runUnderlying51 Tryd.sizeOf26) ?_
      refine kd (v_ldr nj11 hm0R Tryd.isAgg26) ?_
      refine kd (v_len Tryd.runUnderlying26) ?_
      refine kd (v_mv) ?_
      refine kd (v_len Tryd.runUnderlying51) ?_
      refine kd (v_cmp) ?_
      refine kops_nil ?_
      refine kn_then ?_
      refine kwp_cond rfl (fun hc12 => ?_) (fun hc12 => ?_)
      ·
        replace h7 := e_t h7 hc12
        refine kwp_seq ?_
        refine kwp_region ?_
        refine kd (v_as) ?_
        refine kops_nil ?_
        refine kn_then ?_
        refine kwp_ret ?_
        refine kr_then ?_
        refine kr_block ?_
        refine kr_then ?_
        refine kr_then ?_
        obtain rfl := e_some h7
        refine k_out ?_ rfl
        rintro rfl
        refine kr_block ?_
        refine kr_then ?_
        refine kr_then ?_
        obtain rfl := e_some g3
        refine r1 [] ?_
        exact ⟨rfl, rfl⟩
      ·
        replace h7 := e_f h7 hc12
        refine kwp_skip ?_
        refine kn_then ?_
        refine kwp_seq ?_
        refine kwp_region ?_
        refine kd (v_as) ?_
        refine kops_nil ?_
        refine kn_then ?_
        refine kwp_cutO (inv := [(0, .slice m0a m0.length m0c), (3, .int .i64 k5)]) (fun (z : Unit) (y : Unit) => []) (fun (z : Unit) (y : Unit) => []) (fun _ _ => True) h7 ?_ ?_
        · intro t15 h13 g14
          refine kwp_block ?_
          refine kwp_loopE (inv := [(0, .slice m0a m0.length m0c), (3, .int .i64 k5)]) (fun (z : Int) (y : Unit) => [(4, .int .i64 z)]) (fun (z : Int) (y : Unit) => []) (fun _ _ => True) h13 ⟨(), hd_mk trivial⟩ ?_
          intro j16 y20 b17 _ h18
          unfold p_spec_MatrixValid_L1 at h18
          refine kwp_seq ?_
          refine kwp_seq ?_
          refine kwp_region ?_
          refine kd (v_mv) ?_
          refine kd (v_mv) ?_
          refine kd (v_mv) ?_
          obtain ⟨j21, ej21, nj21, h18⟩ := e_idx h18
          refine kd (v_ia ej21 nj21 Tryd.runUnderlying51 Tryd.sizeOf26) ?_
          refine kd (v_ldr nj21 hm0R Tryd.isAgg26) ?_
          refine kd (v_len Tryd.runUnderlying26) ?_
          refine kd (v_cmp) ?_
          refine kops_nil ?_
          refine kn_then ?_
          refine kwp_cond rfl (fun hc22 => ?_) (fun hc22 => ?_)
          ·
            replace h18 := e_t h18 hc22
            refine kwp_skip ?_
            refine kn_then ?_
            refine kwp_seq ?_
            refine kwp_block ?_
            refine kwp_seq ?_
            refine kwp_region ?_
            refine kd (v_mv) ?_
            refine kd (v_mv) ?_
            refine kd (v_ia ej21 nj21 Tryd.runUnderlying51 Tryd.sizeOf26) ?_
            refine kd (v_ldr nj21 hm0R Tryd.isAgg26) ?_
            refine kd (v_mv) ?_
            obtain ⟨j23, ej23, nj23, h18⟩ := e_idx h18
            refine kd (v_ia ej23 nj23 Tryd.runUnderlying26 Tryd.sizeOf3 (hm := by repeat (first | exact mr hm0R (by first | exact nj21 | (simpa using nj21) | omega | (simp only [List.length_set]; omega)) | exact mr0 hm0R (by first | exact nj21 | (simpa using nj21) | omega | (simp only [List.length_set]; omega)) | apply mt | apply mas | apply ms))) ?_
            refine kd (v_ldf nj23 Tryd.isAgg3 (hm := by repeat (first | exact mr hm0R (by first | exact nj21 | (simpa using nj21) | omega | (simp only [List.length_set]; omega)) | exact mr0 hm0R (by first | exact nj21 | (simpa using nj21) | omega | (simp only [List.length_set]; omega)) | apply mt | apply mas | apply ms))) ?_
            obtain ⟨v25, hv24, h18⟩ := e_bind h18
            refine kk (n_call Tryd.call88 (w_spec_l1In hv24) ?_)
            rintro _ _ ⟨rfl, rfl⟩
            refine kd (v_not) ?_
            refine kops_nil ?_
            refine kn_then ?_
            refine kwp_cond rfl (fun hc27 => ?_) (fun hc27 => ?_)
            ·
              replace h18 := e_t h18 hc27
              refine kwp_seq ?_
              refine kwp_region ?_
              refine kd (v_as) ?_
              refine kops_nil ?_
              refine kn_then ?_
              refine kwp_ret ?_
              refine kr_block ?_
              refine kr_then ?_
              refine kr_then ?_
              obtain rfl := e_some h18
              refine k_out ?_ rfl
              rintro rfl
              refine kr_block ?_
              refine kr_then ?_
              refine kr_block ?_
              refine kr_then ?_
              refine kr_then ?_
              obtain rfl := e_some g14
              refine k_out ?_ rfl
              rintro rfl
              refine kr_block ?_
              refine kr_then ?_
              refine kr_then ?_
              obtain rfl := e_some g3
              refine r1 [] ?_
              exact ⟨rfl, rfl⟩
            ·
              replace h18 := e_f h18 hc27
              refine kwp_skip ?_
              refine kn_block ?_
              refine kn_then ?_
              refine kwp_region ?_
              refine kd (v_mv) ?_
              refine kd (v_add) ?_
              refine kd (v_as) ?_
              refine kops_nil ?_
              refine kn_then ?_
              obtain rfl := e_some h18
              exact ⟨_, (), rfl, hd_mk trivial⟩
          ·
            replace h18 := e_f h18 hc22
            refine kwp_exit ?_
            refine ke_then ?_
            obtain rfl := e_some h18
            refine k_out ?_ rfl
            rintro rfl
            refine ke_block ?_
            exact ⟨_, (), rfl, hd_mk trivial⟩
        · intro z28 y29 _ h30
          refine kn_block ?_
          refine kn_then ?_
          refine kwp_region ?_
          refine kd (v_mv) ?_
          refine kd (v_add) ?_
          refine kd (v_as) ?_
          refine kops_nil ?_
          refine kn_then ?_
          obtain rfl := e_some h30
          exact ⟨_, (), rfl, hd_mk trivial⟩
    ·
      replace h7 := e_f h7 hc10
      refine kwp_exit ?_
      refine ke_then ?_
      obtain rfl := e_some h7
      refine k_out ?_ rfl
      rintro rfl
      refine ke_block ?_
      exact ⟨_, (), rfl, hd_mk trivial⟩
  · intro z31 y32 _ h33
    refine kn_then ?_
    refine kwp_seq ?_
    refine kwp_region ?_
    refine kd (v_mv) ?_
    refine kd (v_len Tryd.runUnderlying51) ?_
    refine kd (v_cmp) ?_
    refine kd (v_as) ?_
    refine kops_nil ?_
    refine kn_then ?_
    refine kwp_ret ?_
    obtain rfl := e_some h33
    refine r1 [] ?_
    exact ⟨rfl, rfl⟩

set_option maxRecDepth 20000 in
theorem w_spec_l2Minor (m0a : Option Addr) (m0n : Nat) (m0c : Nat) (m0R : List Row) {m0 : List (List Int)} {row0 : Int} {column0 : Int} (hm0R : nums m0R = m0) {r : List (List Int)} (h : p_spec_l2Minor m0 row0 column0 = some r) :
    Triple Tryd.prog 127 [.slice m0a m0n m0c, .int .i64 row0, .int .i64 column0] (⟨.slice m0a m0n m0c, 1, m0R.map encRow⟩ :: (rowsC m0R)) [] (fun v ch => ∃ (w0a : Option Addr) (w0c : Nat) (w0R : List Row), v = .slice w0a r.length w0c ∧ nums w0R = r ∧ ch = (⟨.slice w0a r.length w0c, 1, w0R.map encRow⟩ :: (rowsC w0R))) := by
  refine triple_start 39 Tryd.func127 Tryd.ntmps127 rfl rfl (fun w0 => ?_)
  refine k_lenM (c := m0c) (m := m0) hm0R (fun hl1 => ?_)
  subst hl1
  unfold p_spec_l2Minor at h
  refine kwp_seq ?_
  refine kwp_region ?_
  refine kops_nilM (fun R2 hR2 => ?_)
  refine kd (v_as) ?_
  refine kops_nil ?_
  refine kn_then ?_
  refine kwp_seq ?_
  refine kwp_region ?_
  refine kk (n_litM Tryd.runUnderlying51 Tryd.sizeOf26 Tryd.zeroValue26 (fun a3 R4 hR4 => ?_))
  refine kd (v_as) ?_
  refine kops_nil ?_
  refine kn_then ?_
  refine kwp_seq ?_
  refine kwp_seq ?_
  refine kwp_region ?_
  refine kd (v_as) ?_
  refine kops_nil ?_
  refine kn_then ?_
  refine kwp_cutE (inv := []) (fun (z : List (List Int)) (y : Option Addr × Nat × Nat × List Row) => [(7, .slice y.1 y.2.1 y.2.2.1)]) (fun (z : List (List Int)) (y : Option Addr × Nat × Nat × List Row) => (⟨.slice y.1 y.2.1 y.2.2.1, 1, y.2.2.2.map encRow⟩ :: (rowsC y.2.2.2))) (fun (z : List (List Int)) (y : Option Addr × Nat × Nat × List Row) => nums y.2.2.2 = z ∧ True) h ?_ ?_
  · intro t8 h6
    refine kwp_block ?_
    refine kwp_loopE (inv := [(0, .slice m0a m0.length m0c), (1, .int .i64 row0), (2, .int .i64 column0)]) (fun (z : List (List Int) × Int) (y : Option Addr × Nat × Nat × List Row) => [(7, .slice y.1 y.2.1 y.2.2.1), (8, .int .i64 z.2)]) (fun (z : List (List Int) × Int) (y : Option Addr × Nat × Nat × List Row) => (⟨.slice y.1 y.2.1 y.2.2.1, 1, y.2.2.2.map encRow⟩ :: (rowsC y.2.2.2))) (fun (z : List (List Int) × Int) (y : Option Addr × Nat × Nat × List Row) => nums y.2.2.2 = z.1 ∧ True) h6 ⟨(some a3, 0, 0, R4), hd_mk ⟨hR4, trivial⟩⟩ ?_
    intro z13 y14 b11 hp15 h12
    obtain ⟨out9, k10⟩ := z13
    obtain ⟨out9a, out9n, out9c, out9R⟩ := y14
    obtain ⟨hout9R, _⟩ := hp15
    refine k_lenM (c := out9c) (m := out9) hout9R (fun hl16 => ?_)
    subst hl16
    unfold p_spec_l2Minor_L0 at h12
    refine kwp_seq ?_
    refine kwp_seq ?_
    refine kwp_region ?_
    refine kd (v_mv) ?_
    refine kd (v_mv) ?_
    refine kd (v_len Tryd.runUnderlying51) ?_
    refine kd (v_cmp) ?_
    refine kops_nil ?_
    refine kn_then ?_
    refine kwp_cond rfl (fun hc17 => ?_) (fun hc17 => ?_)
    ·
      replace h12 := e_t h12 hc17
      refine kwp_skip ?_
      refine kn_then ?_
      refine kwp_seq ?_
      refine kwp_block ?_
      refine kwp_seq ?_
      refine kwp_region ?_
      refine kd (v_mv) ?_
      refine kd (v_mv) ?_
      refine kd (v_cmp) ?_
      refine kops_nil ?_
      refine kn_then ?_
      refine kwp_cond rfl (fun hc18 => ?_) (fun hc18 => ?_)
      ·
        replace h12 := e_t h12 hc18
        obtain ⟨j20, ej20, nj20, h12⟩ := e_idx h12
        obtain ⟨j21, j22, ej21, ej22, oj21, oj22, h12⟩ := e_cut h12
        obtain ⟨hz23, h12⟩ := e_need h12
        obtain ⟨j26, j27, ej26, ej27, oj26, oj27, h12⟩ := e_cut h12
        obtain ⟨hz28, h12⟩ := e_need h12
        obtain ⟨hz32, h12⟩ := e_need h12
        refine kwp_view (view_cut (c := ((gx m0R j20).c)) oj21 oj22) ?_ (hm := by repeat (first | exact mr hm0R (by first | exact nj20 | (simpa using nj20) | omega | (simp only [List.length_set]; omega)) | exact mr0 hm0R (by first | exact nj20 | (simpa using nj20) | omega | (simp only [List.length_set]; omega)) | apply mt | apply mas | apply ms))
        refine kwp_view (view_cut (c := ((gx m0R j20).c)) oj26 oj27) ?_ (hm := by repeat (first | exact mr hm0R (by first | exact nj20 | (simpa using nj20) | omega | (simp only [List.length_set]; omega)) | exact mr0 hm0R (by first | exact nj20 | (simpa using nj20) | omega | (simp only [List.length_set]; omega)) | apply mt | apply mas | apply ms))
        refine kwp_tree (.quiet 0 (.quiet 2 (.quiet 3 (.quiet 4 (.quiet 5 (.quiet 6 (.quiet 7 (.quiet 9 (.quiet 10 (.quiet 11 (.quiet 12 (.quiet 13 (.quiet 14 (.quiet 15 (.one 1 (.one 8 (.one 16 (.one 17 (.one 18 (.quiet 19 .stop)))))))))))))))))))) [] [] drawMixed (by kernel_rfl) nopan (by (repeat (first | exact Sub.refl _ | exact Sub.nil _ | refine Sub.chunk (by repeat (first | exact Pick.here | apply Pick.there | apply Pick.seg)) (by rfl) ?_ | refine Sub.seg (by repeat (first | exact PickSeg.here | exact PickSeg.all | apply PickSeg.there | apply PickSeg.seg)) ?_ | exact Sub.seg0 (by repeat (first | exact PickSeg.here | exact PickSeg.all | apply PickSeg.there | apply PickSeg.seg)) | apply Sub.assoc))) ?_
        refine kt_d rfl rfl rfl (v_mv) ?_
        refine kt_d rfl rfl rfl (v_mv) ?_
        refine kt_d rfl rfl rfl (v_mv) ?_
        refine kt_d rfl rfl rfl (v_ia ej20 nj20 Tryd.runUnderlying51 Tryd.sizeOf26) ?_
        refine kt_d rfl rfl rfl (v_ldr nj20 hm0R Tryd.isAgg26) ?_
        refine kt_d rfl rfl rfl (v_mv) ?_
        refine kt_d rfl rfl rfl (v_sl (l := j21) (h := j22) oj21 oj22 Tryd.runUnderlying26 Tryd.sizeOf3 (hm := by repeat (first | exact mr hm0R (by first | exact nj20 | (simpa using nj20) | omega | (simp only [List.length_set]; omega)) | exact mr0 hm0R (by first | exact nj20 | (simpa using nj20) | omega | (simp only [List.length_set]; omega)) | apply mt | apply mas | apply ms)) (hlo := by show _ = 0; omega) (hhi := by exact ⟨_, _, rfl, ej22⟩)) ?_
        refine kt_d rfl rfl rfl (v_mv) ?_
        refine kt_d rfl rfl rfl (v_mv) ?_
        refine kt_d rfl rfl rfl (v_ia ej20 nj20 Tryd.runUnderlying51 Tryd.sizeOf26) ?_
        refine kt_d rfl rfl rfl (v_ldr nj20 hm0R Tryd.isAgg26) ?_
        refine kt_d rfl rfl rfl (v_mv) ?_
        refine kt_d rfl rfl rfl (v_add) ?_
        refine kt_d rfl rfl rfl (v_sl (l := j26) (h := j27) oj26 oj27 Tryd.runUnderlying26 Tryd.sizeOf3 (hm := by repeat (first | exact mr hm0R (by first | exact nj20 | (simpa using nj20) | omega | (simp only [List.length_set]; omega)) | exact mr0 hm0R (by first | exact nj20 | (simpa using nj20) | omega | (simp only [List.length_set]; omega)) | apply mt | apply mas | apply ms)) (hlo := by exact ⟨_, _, rfl, ej26⟩) (hhi := by show _ = _; omega)) ?_
        refine kt_one ?_
        refine kl_k rfl rfl (n_lit (enc := encI) [] ([] : List Int) Tryd.runUnderlying26 Tryd.sizeOf3 Tryd.zeroValue3 (fun a19 => ?_))
        refine ⟨.inl (by (repeat (first | exact Sub.refl _ | exact Sub.nil _ | refine Sub.chunk (by repeat (first | exact Pick.here | apply Pick.there | apply Pick.seg)) (by rfl) ?_ | refine Sub.seg (by repeat (first | exact PickSeg.here | exact PickSeg.all | apply PickSeg.there | apply PickSeg.seg)) ?_ | exact Sub.seg0 (by repeat (first | exact PickSeg.here | exact PickSeg.all | apply PickSeg.there | apply PickSeg.seg)) | apply Sub.assoc))), ?_⟩
        refine kt_one ?_
        refine kl_k rfl rfl (n_app (enc := encI) ok_encI hz23 Tryd.underlying26 Tryd.type3 (by decide) (fun a24 c25 => ?_))
        refine ⟨.inl (by (repeat (first | exact Sub.refl _ | exact Sub.nil _ | refine Sub.chunk (by repeat (first | exact Pick.here | apply Pick.there | apply Pick.seg)) (by rfl) ?_ | refine Sub.seg (by repeat (first | exact PickSeg.here | exact PickSeg.all | apply PickSeg.there | apply PickSeg.seg)) ?_ | exact Sub.seg0 (by repeat (first | exact PickSeg.here | exact PickSeg.all | apply PickSeg.there | apply PickSeg.seg)) | apply Sub.assoc))), ?_⟩
        refine kt_one ?_
        refine kl_k rfl rfl (n_app (enc := encI) ok_encI hz28 Tryd.underlying26 Tryd.type3 (by decide) (fun a29 c30 => ?_))
        refine ⟨.inl (by (repeat (first | exact Sub.refl _ | exact Sub.nil _ | refine Sub.chunk (by repeat (first | exact Pick.here | apply Pick.there | apply Pick.seg)) (by rfl) ?_ | refine Sub.seg (by repeat (first | exact PickSeg.here | exact PickSeg.all | apply PickSeg.there | apply PickSeg.seg)) ?_ | exact Sub.seg0 (by repeat (first | exact PickSeg.here | exact PickSeg.all | apply PickSeg.there | apply PickSeg.seg)) | apply Sub.assoc))), ?_⟩
        refine kt_one ?_
        refine kl_k rfl rfl (n_lit (enc := fun v => v) [_] [[.slice a29 (((([] : List Int) ++ (((gx m0 j20).drop j21).take (j22 - j21))) ++ (((gx m0 j20).drop j26).take (j27 - j26))).length) c30]] Tryd.runUnderlying51 Tryd.sizeOf26 Tryd.zeroValue26 (fun a31 => ?_))
        refine ⟨.inl (by (repeat (first | exact Sub.refl _ | exact Sub.nil _ | refine Sub.chunk (by repeat (first | exact Pick.here | apply Pick.there | apply Pick.seg)) (by rfl) ?_ | refine Sub.seg (by repeat (first | exact PickSeg.here | exact PickSeg.all | apply PickSeg.there | apply PickSeg.seg)) ?_ | exact Sub.seg0 (by repeat (first | exact PickSeg.here | exact PickSeg.all | apply PickSeg.there | apply PickSeg.seg)) | apply Sub.assoc))), ?_⟩
        refine kt_one ?_
        refine kl_k rfl rfl (n_appM (l := ((([] : List Int) ++ (((gx m0 j20).drop j21).take (j22 - j21))) ++ (((gx m0 j20).drop j26).take (j27 - j26)))) hout9R hz32 Tryd.underlying51 Tryd.type26 (by decide) (fun a33 c34 R35 hR35 => ?_))
        refine ⟨.inl (by (repeat (first | exact Sub.refl _ | exact Sub.nil _ | refine Sub.chunk (by repeat (first | exact Pick.here | apply Pick.there | apply Pick.seg)) (by rfl) ?_ | refine Sub.seg (by repeat (first | exact PickSeg.here | exact PickSeg.all | apply PickSeg.there | apply PickSeg.seg)) ?_ | exact Sub.seg0 (by repeat (first | exact PickSeg.here | exact PickSeg.all | apply PickSeg.there | apply PickSeg.seg)) | apply Sub.assoc))), ?_⟩
        refine kt_d rfl rfl rfl (v_as) ?_
        refine kt_nil ?_
        refine kn_block ?_
        refine kn_then ?_
        refine kwp_region ?_
        refine kd (v_mv) ?_
        refine kd (v_add) ?_
        refine kd (v_as) ?_
        refine kops_nil ?_
        refine kn_then ?_
        obtain rfl := e_some h12
        exact ⟨_, (a33, (out9 ++ [(([] : List Int) ++ (((gx m0 j20).drop j21).take (j22 - j21))) ++ (((gx m0 j20).drop j26).take (j27 - j26))]).length, c34, R35), rfl, hd_mk ⟨hR35, trivial⟩⟩
      ·
        replace h12 := e_f h12 hc18
        refine kwp_skip ?_
        refine kn_block ?_
        refine kn_then ?_
        refine kwp_region ?_
        refine kd (v_mv) ?_
        refine kd (v_add) ?_
        refine kd (v_as) ?_
        refine kops_nil ?_
        refine kn_then ?_
        obtain rfl := e_some h12
        exact ⟨_, (out9a, out9.length, out9c, out9R), rfl, hd_mk ⟨hout9R, trivial⟩⟩
    ·
      replace h12 := e_f h12 hc17
      refine kwp_exit ?_
      refine ke_then ?_
      obtain rfl := e_some h12
      refine k_out ?_ rfl
      rintro rfl
      refine ke_block ?_
      exact ⟨(out9a, out9.length, out9c, out9R), hd_mk ⟨hout9R, trivial⟩⟩
  · intro out5 y37 hp39 h38
    obtain ⟨out5a, out5n, out5c, out5R⟩ := y37
    obtain ⟨hout5R, _⟩ := hp39
    refine k_lenM (c := out5c) (m := out5) hout5R (fun hl40 => ?_)
    subst hl40
    refine kwp_seq ?_
    refine kwp_region ?_
    refine kd (v_mv) ?_
    refine kd (v_as) ?_
    refine kops_nil ?_
    refine kn_then ?_
    refine kwp_ret ?_
    obtain rfl := e_some h38
    refine r1 (⟨.slice out5a (out5.length) out5c, 1, out5R.map encRow⟩ :: (rowsC out5R)) ?_
    exact ⟨out5a, out5c, out5R, rfl, hout5R, rfl⟩

set_option maxRecDepth 20000 in
theorem w_spec_l2Det : ∀ (fuel : Nat) (m0a : Option Addr) (m0n : Nat) (m0c : Nat) (m0R : List Row) {m0 : List (List Int)} (hm0R : nums m0R = m0) {r : Int} (h : p_spec_l2Det fuel m0 = some r), Triple Tryd.prog 109 [.slice m0a m0n m0c] (⟨.slice m0a m0n m0c, 1, m0R.map encRow⟩ :: (rowsC m0R)) [] (fun v ch => v = .int .i64 r ∧ ch = []) := by
  intro fuel
  induction fuel with
  | zero => intros; rename_i h; cases h
  | succ fuel ih =>
    intro m0a m0n m0c m0R m0 hm0R r h
    refine triple_start 40 Tryd.func109 Tryd.ntmps109 rfl rfl (fun w0 => ?_)
    refine k_lenM (c := m0c) (m := m0) hm0R (fun hl1 => ?_)
    subst hl1
    unfold p_spec_l2Det at h
    refine kwp_seq ?_
    refine kwp_region ?_
    refine kd (v_as) ?_
    refine kops_nil ?_
    refine kn_then ?_
    refine kwp_seq ?_
    refine kwp_seq ?_
    refine kwp_region ?_
    refine kd (v_mv) ?_
    refine kd (v_len Tryd.runUnderlying51) ?_
    refine kd (v_cmp) ?_
    refine kops_nil ?_
    refine kn_then ?_
    refine kwp_cond rfl (fun hc2 => ?_) (fun hc2 => ?_)
    ·
      replace h := e_t h hc2
      refine kwp_seq ?_
      refine kwp_region ?_
      refine kd (v_as) ?_
      refine kops_nil ?_
      refine kn_then ?_
      refine kwp_ret ?_
      refine kr_then ?_
      obtain rfl := e_some h
      refine r1 [] ?_
      exact ⟨rfl, rfl⟩
    ·
      replace h := e_f h hc2
      refine kwp_skip ?_
      refine kn_then ?_
      refine kwp_seq ?_
      refine kwp_region ?_
      refine kd (v_as) ?_
      refine kops_nil ?_
      refine kn_then ?_
      refine kwp_seq ?_
      refine kwp_region ?_
      refine kd (v_as) ?_
      refine kops_nil ?_
      refine kn_then ?_
      refine kwp_seq ?_
      refine kwp_seq ?_
      refine kwp_region ?_
      refine kd (v_as) ?_
      refine kops_nil ?_
      refine kn_then ?_
      refine kwp_cutE (inv := []) (fun (z : Int) (y : Unit) => [(3, .int .i64 z)]) (fun (z : Int) (y : Unit) => []) (fun _ _ => True) h ?_ ?_
      · intro t6 h4
        refine kwp_block ?_
        refine kwp_loopE (inv := [(0, .slice m0a m0.length m0c)]) (fun (z : Int × Int × Int) (y : Unit) => [(3, .int .i64 z.1), (4, .int .i64 z.2.1), (5, .int .i64 z.2.2)]) (fun (z : Int × Int × Int) (y : Unit) => []) (fun _ _ => True) h4 ⟨(), hd_mk trivial⟩ ?_
        intro z12 y13 b10 _ h11
        obtain ⟨sum7, sign8, k9⟩ := z12
        unfold p_spec_l2Det_L0 at h11
        refine kwp_seq ?_
        refine kwp_seq ?_
        refine kwp_region ?_
        refine kd (v_mv) ?_
        refine kd (v_mv) ?_
        refine kd (v_len Tryd.runUnderlying51) ?_
        refine kd (v_cmp) ?_
        refine kops_nil ?_
        refine kn_then ?_
        refine kwp_cond rfl (fun hc14 => ?_) (fun hc14 => ?_)
        ·
          replace h11 := e_t h11 hc14
          refine kwp_skip ?_
          refine kn_then ?_
          refine kwp_seq ?_
          refine kwp_block ?_
          refine kwp_seq ?_
          refine kwp_seq ?_
          refine kwp_region ?_
          refine kd (v_mv) ?_
          obtain ⟨j15, ej15, nj15, h11⟩ := e_idx h11
          refine kd (v_ia ej15 nj15 Tryd.runUnderlying51 Tryd.sizeOf26) ?_
          refine kd (v_ldr nj15 hm0R Tryd.isAgg26) ?_
          refine kd (v_mv) ?_
          obtain ⟨j16, ej16, nj16, h11⟩ := e_idx h11
          refine kd (v_ia ej16 nj16 Tryd.runUnderlying26 Tryd.sizeOf3 (hm := by repeat (first | exact mr hm0R (by first | exact nj15 | (simpa using nj15) | omega | (simp only [List.length_set]; omega)) | exact mr0 hm0R (by first | exact nj15 | (simpa using nj15) | omega | (simp only [List.length_set]; omega)) | apply mt | apply mas | apply ms))) ?_
          refine kd (v_ldf nj16 Tryd.isAgg3 (hm := by repeat (first | exact mr hm0R (by first | exact nj15 | (simpa using nj15) | omega | (simp only [List.length_set]; omega)) | exact mr0 hm0R (by first | exact nj15 | (simpa using nj15) | omega | (simp only [List.length_set]; omega)) | apply mt | apply mas | apply ms))) ?_
          refine kd (v_cmp) ?_
          refine kops_nil ?_
          refine kn_then ?_
          refine kwp_cond rfl (fun hc17 => ?_) (fun hc17 => ?_)
          ·
            replace h11 := e_t h11 hc17
            obtain ⟨v19, hv18, h11⟩ := e_bind h11
            obtain ⟨v22, hv21, h11⟩ := e_bind h11
            refine kwp_tree (.quiet 0 (.quiet 1 (.quiet 2 (.quiet 3 (.quiet 4 (.quiet 5 (.quiet 6 (.quiet 7 (.quiet 8 (.quiet 9 (.quiet 10 (.one 11 (.one 12 (.quiet 13 (.quiet 14 (.quiet 15 .stop)))))))))))))))) [] [] drawMixed (by kernel_rfl) nopan (by (repeat (first | exact Sub.refl _ | exact Sub.nil _ | refine Sub.chunk (by repeat (first | exact Pick.here | apply Pick.there | apply Pick.seg)) (by rfl) ?_ | refine Sub.seg (by repeat (first | exact PickSeg.here | exact PickSeg.all | apply PickSeg.there | apply PickSeg.seg)) ?_ | exact Sub.seg0 (by repeat (first | exact PickSeg.here | exact PickSeg.all | apply PickSeg.there | apply PickSeg.seg)) | apply Sub.assoc))) ?_
            refine kt_d rfl rfl rfl (v_mv) ?_
            refine kt_d rfl rfl rfl (v_mv) ?_
            refine kt_d rfl rfl rfl (v_mv) ?_
            refine kt_d rfl rfl rfl (v_ia ej15 nj15 Tryd.runUnderlying51 Tryd.sizeOf26) ?_
            refine kt_d rfl rfl rfl (v_ldr nj15 hm0R Tryd.isAgg26) ?_
            refine kt_d rfl rfl rfl (v_mv) ?_
            refine kt_d rfl rfl rfl (v_ia ej16 nj16 Tryd.runUnderlying26 Tryd.sizeOf3 (hm := by repeat (first | exact mr hm0R (by first | exact nj15 | (simpa using nj15) | omega | (simp only [List.length_set]; omega)) | exact mr0 hm0R (by first | exact nj15 | (simpa using nj15) | omega | (simp only [List.length_set]; omega)) | apply mt | apply mas | apply ms))) ?_
            refine kt_d rfl rfl rfl (v_ldf nj16 Tryd.isAgg3 (hm := by repeat (first | exact mr hm0R (by first | exact nj15 | (simpa using nj15) | omega | (simp only [List.length_set]; omega)) | exact mr0 hm0R (by first | exact nj15 | (simpa using nj15) | omega | (simp only [List.length_set]; omega)) | apply mt | apply mas | apply ms))) ?_
            refine kt_d rfl rfl rfl (v_mul) ?_
            refine kt_d rfl rfl rfl (v_mv) ?_
            refine kt_d rfl rfl rfl (v_mv) ?_
            refine kt_one ?_
            refine kl_k rfl rfl (n_call Tryd.call127 (w_spec_l2Minor m0a m0.length m0c m0R hm0R hv18) ?_)
            rintro _ _ ⟨q20a, q20c, q20R, rfl, hq20R, rfl⟩
            refine ⟨.inl (by (repeat (first | exact Sub.refl _ | exact Sub.nil _ | refine Sub.chunk (by repeat (first | exact Pick.here | apply Pick.there | apply Pick.seg)) (by rfl) ?_ | refine Sub.seg (by repeat (first | exact PickSeg.here | exact PickSeg.all | apply PickSeg.there | apply PickSeg.seg)) ?_ | exact Sub.seg0 (by repeat (first | exact PickSeg.here | exact PickSeg.all | apply PickSeg.there | apply PickSeg.seg)) | apply Sub.assoc))), ?_⟩
            refine kt_one ?_
            refine kl_k rfl rfl (n_call Tryd.call109 (ih q20a v19.length q20c q20R hq20R hv21) ?_)
            rintro _ _ ⟨rfl, rfl⟩
            refine ⟨.inl (by (repeat (first | exact Sub.refl _ | exact Sub.nil _ | refine Sub.chunk (by repeat (first | exact Pick.here | apply Pick.there | apply Pick.seg)) (by rfl) ?_ | refine Sub.seg (by repeat (first | exact PickSeg.here | exact PickSeg.all | apply PickSeg.there | apply PickSeg.seg)) ?_ | exact Sub.seg0 (by repeat (first | exact PickSeg.here | exact PickSeg.all | apply PickSeg.there | apply PickSeg.seg)) | apply Sub.assoc))), ?_⟩
            refine kt_d rfl rfl rfl (v_mul) ?_
            refine kt_d rfl rfl rfl (v_add) ?_
            refine kt_d rfl rfl rfl (v_as) ?_
            refine kt_nil ?_
            refine kn_then ?_
            refine kwp_region ?_
            refine kd (v_mv) ?_
            refine kd (v_neg) ?_
            refine kd (v_as) ?_
            refine kops_nil ?_
            refine kn_block ?_
            refine kn_then ?_
            refine kwp_region ?_
            refine kd (v_mv) ?_
            refine kd (v_add) ?_
            refine kd (v_as) ?_
            refine kops_nil ?_
            refine kn_then ?_
            obtain rfl := e_some h11
            exact ⟨_, (), rfl, hd_mk trivial⟩
          ·
            replace h11 := e_f h11 hc17
            refine kwp_skip ?_
            refine kn_then ?_
            refine kwp_region ?_
            refine kd (v_mv) ?_
            refine kd (v_neg) ?_
            refine kd (v_as) ?_
            refine kops_nil ?_
            refine kn_block ?_
            refine kn_then ?_
            refine kwp_region ?_
            refine kd (v_mv) ?_
            refine kd (v_add) ?_
            refine kd (v_as) ?_
            refine kops_nil ?_
            refine kn_then ?_
            obtain rfl := e_some h11
            exact ⟨_, (), rfl, hd_mk trivial⟩
        ·
          replace h11 := e_f h11 hc14
          refine kwp_exit ?_
          refine ke_then ?_
          obtain rfl := e_some h11
          refine k_out ?_ rfl
          rintro rfl
          refine ke_block ?_
          exact ⟨(), hd_mk trivial⟩
      · intro sum3 y25 _ h26
        refine kn_then ?_
        refine kwp_seq ?_
        refine kwp_region ?_
        refine kd (v_mv) ?_
        refine kd (v_as) ?_
        refine kops_nil ?_
        refine kn_then ?_
        refine kwp_ret ?_
        obtain rfl := e_some h26
        refine r1 [] ?_
        exact ⟨rfl, rfl⟩

set_option maxRecDepth 20000 in
theorem w_spec_Det (m0a : Option Addr) (m0n : Nat) (m0c : Nat) (m0R : List Row) {m0 : List (List Int)} (hm0R : nums m0R = m0) {r : Int} (h : p_spec_Det m0 = some r) :
    Triple Tryd.prog 64 [.slice m0a m0n m0c] (⟨.slice m0a m0n m0c, 1, m0R.map encRow⟩ :: (rowsC m0R)) [] (fun v ch => v = .int .i64 r ∧ ch = []) := by
  refine triple_start 8 Tryd.func64 Tryd.ntmps64 rfl rfl (fun w0 => ?_)
  refine k_lenM (c := m0c) (m := m0) hm0R (fun hl1 => ?_)
  subst hl1
  unfold p_spec_Det at h
  refine kwp_seq ?_
  refine kwp_region ?_
  refine kd (v_as) ?_
  refine kops_nil ?_
  refine kn_then ?_
  refine kwp_seq ?_
  refine kwp_seq ?_
  refine kwp_region ?_
  refine kd (v_mv) ?_
  obtain ⟨v3, hv2, h⟩ := e_bind h
  refine kk (n_call Tryd.call65 (w_spec_MatrixValid m0a m0.length m0c m0R hm0R hv2) ?_)
  rintro _ _ ⟨rfl, rfl⟩
  refine kd (v_not) ?_
  refine kops_nil ?_
  refine kn_then ?_
  refine kwp_cond rfl (fun hc5 => ?_) (fun hc5 => ?_)
  ·
    replace h := e_t h hc5
    refine kwp_seq ?_
    refine kwp_region ?_
    refine kd (v_as) ?_
    refine kops_nil ?_
    refine kn_then ?_
    refine kwp_ret ?_
    refine kr_then ?_
    obtain rfl := e_some h
    refine r1 [] ?_
    exact ⟨rfl, rfl⟩
  ·
    replace h := e_f h hc5
    refine kwp_skip ?_
    refine kn_then ?_
    refine kwp_seq ?_
    refine kwp_region ?_
    refine kd (v_mv) ?_
    obtain ⟨v7, hv6, h⟩ := e_bind h
    refine kk (n_call Tryd.call109 (w_spec_l2Det 64 m0a m0.length m0c m0R hm0R hv6) ?_)
    rintro _ _ ⟨rfl, rfl⟩
    refine kd (v_as) ?_
    refine kops_nil ?_
    refine kn_then ?_
    refine kwp_ret ?_
    obtain rfl := e_some h
    refine r1 [] ?_
    exact ⟨rfl, rfl⟩

end Go.Proofs.YtnibfmofkamjoaaDoor
