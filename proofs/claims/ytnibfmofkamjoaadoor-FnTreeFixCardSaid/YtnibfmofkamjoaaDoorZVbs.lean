/- What the plain programs return, the functions of the program return; no condition. -/
import Derived.Test.YtnibfmofkamjoaaDoorZQ
import Derived.Test.YtnibfmofkamjoaaDoorZFa
import Derived.Test.YtnibfmofkamjoaaDoorZVbp
import Derived.Test.YtnibfmofkamjoaaDoorZVbd
import Derived.Test.YtnibfmofkamjoaaDoorZVbk
namespace Go.Proofs.YtnibfmofkamjoaaDoor
open Go
set_option linter.unusedVariables false
set_option linter.unusedSimpArgs false

set_option maxRecDepth 20000 in
theorem w_impl_withColumn (m0a : Option Addr) (m0n : Nat) (m0c : Nat) (m0R : List Row) (numbers0a : Option Addr) (numbers0n : Nat) (numbers0c : Nat) {m0 : List (List Int)} {column0 : Int} {numbers0 : List Int} (hm0R : nums m0R = m0) {r : List (List Int)} (h : p_impl_withColumn m0 column0 numbers0 = some r) :
    Triple Tryd.prog 106 [.slice m0a m0n m0c, .int .i64 column0, .slice numbers0a numbers0n numbers0c] (⟨.slice m0a m0n m0c, 1, m0R.map encRow⟩ :: ⟨.slice numbers0a numbers0n numbers0c, 1, numbers0.map encI⟩ :: (rowsC m0R)) [] (fun v ch => ∃ (w0a : Option Addr) (w0c : Nat) (w0R : List Row), v = .slice w0a r.length w0c ∧ nums w0R = r ∧ ch = (⟨.slice w0a r.length w0c, 1, w0R.map encRow⟩ :: (rowsC w0R))) := by
  refine triple_start 37 Tryd.func106 Tryd.ntmps106 rfl rfl (fun w0 => ?_)
  refine k_lenM (c := m0c) (m := m0) hm0R (fun hl1 => ?_)
  subst hl1
  refine k_len (c := numbers0c) (fun hl2 => ?_)
  subst hl2
  unfold p_impl_withColumn at h
  refine kwp_seq ?_
  refine kwp_region ?_
  refine kops_nilM (fun R3 hR3 => ?_)
  refine kd (v_as) ?_
  refine kops_nil ?_
  refine kn_then ?_
  refine kwp_seq ?_
  refine kwp_region ?_
  refine kd (v_mv) ?_
  refine kd (v_len Tryd.runUnderlying51) ?_
  obtain ⟨j4, ej4, nj4, h⟩ := e_sized h
  refine kk (n_makeM ej4 nj4 Tryd.underlying51 Tryd.type26 (by decide) (fun a5 R6 hR6 => ?_))
  refine kd (v_as) ?_
  refine kops_nil ?_
  refine kn_then ?_
  refine kwp_seq ?_
  refine kwp_seq ?_
  refine kwp_region ?_
  refine kd (v_mv) ?_
  refine kd (v_len Tryd.runUnderlying51) ?_
  refine kd (v_mv) ?_
  refine kops_nil ?_
  refine kn_then ?_
  refine kwp_cutE (inv := [(7, .slice (some a5) j4 j4)]) (fun (z : List (List Int)) (y : List Row) => []) (fun (z : List (List Int)) (y : List Row) => (⟨.slice (some a5) j4 j4, 1, y.map encRow⟩ :: (rowsC y))) (fun (z : List (List Int)) (y : List Row) => nums y = z ∧ True) h ?_ ?_
  · intro t10 h8
    refine kwp_block ?_
    refine kwp_loopE (inv := [(1, .int .i64 column0), (2, .slice numbers0a numbers0.length numbers0c), (7, .slice (some a5) j4 j4), (13, .slice m0a m0.length m0c), (14, .int .i64 ((m0.length : Nat) : Int))]) (fun (z : Int × List (List Int)) (y : List Row) => [(15, .int .i64 z.1)]) (fun (z : Int × List (List Int)) (y : List Row) => (⟨.slice (some a5) j4 j4, 1, y.map encRow⟩ :: (rowsC y))) (fun (z : Int × List (List Int)) (y : List Row) => nums y = z.2 ∧ True) h8 ⟨R6, hd_mk ⟨hR6, trivial⟩⟩ ?_
    intro z15 m12R b13 hp17 h14
    obtain ⟨x11, m12⟩ := z15
    obtain ⟨hm12R, _⟩ := hp17
    refine k_lenM (m := m12) hm12R (fun hl18 => ?_)
    unfold p_impl_withColumn_L0 at h14
    refine kwp_seq ?_
    refine kwp_region ?_
    refine kd (v_cmp) ?_
    refine kops_nil ?_
    refine kn_then ?_
    refine kwp_seq ?_
    refine kwp_cond rfl (fun hc19 => ?_) (fun hc19 => ?_)
    ·
      replace h14 := e_t h14 hc19
      refine kwp_skip ?_
      refine kn_then ?_
      refine kwp_seq ?_
      refine kwp_block ?_
      refine kwp_seq ?_
      refine kwp_region ?_
      refine kd (v_mv) ?_
      obtain ⟨j20, ej20, nj20, h14⟩ := e_idx h14
      refine kd (v_ia ej20 nj20 Tryd.runUnderlying51 Tryd.sizeOf26) ?_
      refine kd (v_ldr nj20 hm0R Tryd.isAgg26) ?_
      refine kd (v_as) ?_
      refine kd (v_as) ?_
      refine kops_nil ?_
      refine kn_then ?_
      refine kwp_seq ?_
      refine kwp_region ?_
      refine kd (v_mv) ?_
      refine kd (v_mv) ?_
      refine kd (v_mv) ?_
      obtain ⟨v22, hv21, h14⟩ := e_bind h14
      refine kk (n_call Tryd.call126 (w_slices_Clone_int_int ((gx m0R j20).a) ((gx m0 j20).length) ((gx m0R j20).c) hv21) ?_ (hv := (Views.cons (by repeat (first | exact mr hm0R (by first | exact nj20 | (simpa using nj20) | omega | (simp only [List.length_set]; omega)) | exact mr0 hm0R (by first | exact nj20 | (simpa using nj20) | omega | (simp only [List.length_set]; omega)) | apply mt | apply mas | apply ms)) (View.refl _) (Views.nil _))))
      rintro _ _ ⟨q23a, q23c, rfl, rfl⟩
      obtain ⟨j24, ej24, nj24, h14⟩ := e_idx h14
      refine kd (v_ia ej24 nj24 Tryd.runUnderlying51 Tryd.sizeOf26) ?_
      refine kk (s_setrow (l := v22) nj24 hm12R Tryd.sizeOf26 (fun R25 hR25 => ?_))
      refine kops_nil ?_
      refine kn_then ?_
      obtain ⟨j26, ej26, nj26, h14⟩ := e_idx h14
      obtain ⟨j27, ej27, nj27, h14⟩ := e_idx h14
      refine kwp_tree (.quiet 0 (.quiet 1 (.quiet 2 (.quiet 3 (.quiet 4 (.quiet 5 (.quiet 6 (.quiet 7 (.quiet 8 (.quiet 9 (.one 10 .stop))))))))))) [10] (⟨.slice (some a5) j4 j4, 1, R25.map encRow⟩ :: (rowsC R25)) drawMixed (by kernel_rfl) nopan (by (repeat (first | exact Sub.refl _ | exact Sub.nil _ | refine Sub.chunk (by repeat (first | exact Pick.here | apply Pick.there | apply Pick.seg)) (by rfl) ?_ | refine Sub.seg (by repeat (first | exact PickSeg.here | exact PickSeg.all | apply PickSeg.there | apply PickSeg.seg)) ?_ | exact Sub.seg0 (by repeat (first | exact PickSeg.here | exact PickSeg.all | apply PickSeg.there | apply PickSeg.seg)) | apply Sub.assoc))) ?_
      refine kt_d rfl rfl rfl (v_mv) ?_
      refine kt_d rfl rfl rfl (v_mv) ?_
      refine kt_d rfl rfl rfl (v_ia ej24 nj24 Tryd.runUnderlying51 Tryd.sizeOf26) ?_
      refine kt_d rfl rfl rfl (v_ldr nj24 hR25 Tryd.isAgg26) ?_
      refine kt_d rfl rfl rfl (v_mv) ?_
      refine kt_d rfl rfl rfl (v_mv) ?_
      refine kt_d rfl rfl rfl (v_mv) ?_
      refine kt_d rfl rfl rfl (v_ia ej26 nj26 Tryd.runUnderlying26 Tryd.sizeOf3) ?_
      refine kt_d rfl rfl rfl (v_ldf nj26 Tryd.isAgg3) ?_
      refine kt_d rfl rfl rfl (v_ia ej27 nj27 Tryd.runUnderlying26 Tryd.sizeOf3 (hm := by repeat (first | exact mr hR25 (by first | exact nj24 | (simpa using nj24) | omega | (simp only [List.length_set]; omega)) | exact mr0 hR25 (by first | exact nj24 | (simpa using nj24) | omega | (simp only [List.length_set]; omega)) | apply mt | apply mas | apply ms))) ?_
      refine kt_one ?_
      refine kl_k rfl rfl (s_row (by first | exact nj24 | (simpa using nj24) | omega | (simp only [List.length_set]; omega)) nj27 hR25 Tryd.sizeOf3 (fun R28 hR28 => ?_))
      refine ⟨.inr ⟨by decide, rfl⟩, ?_⟩
      refine kt_nil ?_
      refine kn_block ?_
      refine kn_then ?_
      refine kwp_region ?_
      refine kd (v_add) ?_
      refine kd (v_mv) ?_
      refine kops_nil ?_
      refine kn_then ?_
      obtain rfl := e_some h14
      exact ⟨_, R28, rfl, hd_mk ⟨hR28, trivial⟩⟩
    ·
      replace h14 := e_f h14 hc19
      refine kwp_exit ?_
      refine ke_then ?_
      obtain rfl := e_some h14
      refine k_out ?_ rfl
      rintro rfl
      refine ke_block ?_
      exact ⟨m12R, hd_mk ⟨hm12R, trivial⟩⟩
  · intro m7 m7R hp32 h31
    obtain ⟨hm7R, _⟩ := hp32
    refine k_lenM (m := m7) hm7R (fun hl33 => ?_)
    refine kwp_seq ?_
    refine kwp_region ?_
    refine kd (v_mv) ?_
    refine kd (v_as) ?_
    refine kops_nil ?_
    refine kn_then ?_
    refine k_lenM (c := j4) hm7R (fun hl34 => ?_)
    subst hl34
    refine kwp_ret ?_
    obtain rfl := e_some h31
    refine r1 (⟨.slice (some a5) (m7.length) (m7.length), 1, m7R.map encRow⟩ :: (rowsC m7R)) ?_
    exact ⟨some a5, (m7.length), m7R, rfl, hm7R, rfl⟩

set_option maxRecDepth 20000 in
set_option maxHeartbeats 2000000 in
theorem w_impl_Solve (m0a : Option Addr) (m0n : Nat) (m0c : Nat) (m0R : List Row) (right0a : Option Addr) (right0n : Nat) (right0c : Nat) {m0 : List (List Int)} {right0 : List Int} (hm0R : nums m0R = m0) {r : List Int × Int} (h : p_impl_Solve m0 right0 = some r) :
    Triple Tryd.prog 60 [.slice m0a m0n m0c, .slice right0a right0n right0c] (⟨.slice m0a m0n m0c, 1, m0R.map encRow⟩ :: ⟨.slice right0a right0n right0c, 1, right0.map encI⟩ :: (rowsC m0R)) [] (fun v ch => ∃ (w0a : Option Addr) (w0c : Nat), v = .tuple #[.slice w0a r.1.length w0c, .int .i64 r.2] ∧ ch = [⟨.slice w0a r.1.length w0c, 1, r.1.map encI⟩]) := by
  refine triple_start 47 Tryd.func60 Tryd.ntmps60 rfl rfl (fun w0 => ?_)
  refine k_lenM (c := m0c) (m := m0) hm0R (fun hl1 => ?_)
  subst hl1
  refine k_len (c := right0c) (fun hl2 => ?_)
  subst hl2
  unfold p_impl_Solve at h
  refine kwp_seq ?_
  refine kwp_region ?_
  refine kops_nilchunk 1 (by decide) ?_
  refine kd (v_as) ?_
  refine kd (v_as) ?_
  refine kops_nil ?_
  refine kn_then ?_
  refine kwp_seq ?_
  refine kwp_seq ?_
  refine kwp_cutE (inv := [(0, .slice m0a m0.length m0c), (1, .slice right0a right0.length right0c)]) (fun (z : Bool) (y : Unit) => [(23, .bool z)]) (fun (z : Bool) (y : Unit) => []) (fun _ _ => True) h ?_ ?_
  · intro t6 h4
    refine kwp_region ?_
    refine kd (v_mv) ?_
    obtain ⟨v8, hv7, h4⟩ := e_bind h4
    refine kk (n_call Tryd.call67 (w_impl_MatrixValid m0a m0.length m0c m0R hm0R hv7) ?_)
    rintro _ _ ⟨rfl, rfl⟩
    refine kd (v_not) ?_
    refine kd (v_mv) ?_
    refine kops_split 12 rfl (fun hb10 => ?_) (fun hb10 => ?_)
    ·
      replace h4 := e_t h4 hb10
      refine kskip hb10 ?_
      refine kskip hb10 ?_
      refine kskip hb10 ?_
      refine kskip hb10 ?_
      refine kskip hb10 ?_
      refine kd (v_pt hb10) ?_
      refine kd (v_mv) ?_
      refine kskip rfl ?_
      refine kskip rfl ?_
      refine kskip rfl ?_
      refine kd (v_pt rfl) ?_
      refine kops_nil ?_
      refine kn_then ?_
      obtain rfl := e_some h4
      exact ⟨(), hd_mk trivial⟩
    ·
      replace h4 := e_f h4 hb10
      refine kgd hb10 (v_mv) ?_
      refine kgd hb10 (v_len Tryd.runUnderlying26) ?_
      refine kgd hb10 (v_mv) ?_
      refine kgd hb10 (v_len Tryd.runUnderlying51) ?_
      refine kgd hb10 (v_cmp) ?_
      refine kd (v_pf hb10) ?_
      refine kd (v_mv) ?_
      refine kops_split 19 rfl (fun hb11 => ?_) (fun hb11 => ?_)
      ·
        replace h4 := e_t h4 hb11
        refine kskip hb11 ?_
        refine kskip hb11 ?_
        refine kskip hb11 ?_
        refine kd (v_pt hb11) ?_
        refine kops_nil ?_
        refine kn_then ?_
        obtain rfl := e_some h4
        exact ⟨(), hd_mk trivial⟩
      ·
        replace h4 := e_f h4 hb11
        refine kgd hb11 (v_mv) ?_
        obtain ⟨v13, hv12, h4⟩ := e_bind h4
        refine kgk hb11 (n_call Tryd.call105 (w_impl_entriesFit right0a right0.length right0c hv12) ?_)
        rintro _ _ ⟨rfl, rfl⟩
        refine kgd hb11 (v_not) ?_
        refine kd (v_pf hb11) ?_
        refine kops_nil ?_
        refine kn_then ?_
        obtain rfl := e_some h4
        exact ⟨(), hd_mk trivial⟩
  · intro x3 y16 _ h17
    refine kn_then ?_
    refine kwp_cond rfl (fun hc18 => ?_) (fun hc18 => ?_)
    ·
      replace h17 := e_t h17 hc18
      refine kwp_seq ?_
      refine kwp_region ?_
      refine kops_nilchunk 1 (by decide) ?_
      refine kd (v_as) ?_
      refine kd (v_as) ?_
      refine kops_nil ?_
      refine kn_then ?_
      refine kwp_ret ?_
      refine kr_then ?_
      obtain rfl := e_some h17
      refine r2 [⟨.slice none 0 0, 1, ([] : List Int).map encI⟩] ?_
      exact ⟨none, 0, rfl, rfl⟩
    ·
      replace h17 := e_f h17 hc18
      refine kwp_skip ?_
      refine kn_then ?_
      refine kwp_seq ?_
      refine kwp_region ?_
      refine kd (v_mv) ?_
      obtain ⟨v20, hv19, h17⟩ := e_bind h17
      refine kk (n_call Tryd.call62 (w_impl_Det m0a m0.length m0c m0R hm0R hv19) ?_)
      rintro _ _ ⟨rfl, rfl⟩
      refine kd (v_as) ?_
      refine kops_nil ?_
      refine kn_then ?_
      refine kwp_seq ?_
      refine kwp_seq ?_
      refine kwp_region ?_
      refine kd (v_mv) ?_
      refine kd (v_cmp) ?_
      refine kops_nil ?_
      refine kn_then ?_
      refine kwp_cond rfl (fun hc22 => ?_) (fun hc22 => ?_)
      ·
        replace h17 := e_t h17 hc22
        refine kwp_seq ?_
        refine kwp_region ?_
        refine kops_nilchunk 1 (by decide) ?_
        refine kd (v_as) ?_
        refine kd (v_as) ?_
        refine kops_nil ?_
        refine kn_then ?_
        refine kwp_ret ?_
        refine kr_then ?_
        obtain rfl := e_some h17
        refine r2 [⟨.slice none 0 0, 1, ([] : List Int).map encI⟩] ?_
        exact ⟨none, 0, rfl, rfl⟩
      ·
        replace h17 := e_f h17 hc22
        refine kwp_skip ?_
        refine kn_then ?_
        refine kwp_seq ?_
        refine kwp_region ?_
        refine kd (v_mv) ?_
        refine kd (v_len Tryd.runUnderlying51) ?_
        obtain ⟨j23, ej23, nj23, h17⟩ := e_sized h17
        refine kk (n_make (enc := encI) 0 ej23 nj23 Tryd.underlying26 Tryd.type3 (by decide) (fun a24 => ?_))
        refine kd (v_as) ?_
        refine kops_nil ?_
        refine kn_then ?_
        refine kwp_seq ?_
        refine kwp_seq ?_
        refine kwp_region ?_
        refine kd (v_mv) ?_
        refine kd (v_len Tryd.runUnderlying26) ?_
        refine kd (v_mv) ?_
        refine kops_nil ?_
        refine kn_then ?_
        refine kwp_cutE (inv := [(6, .int .i64 v20), (7, .slice (some a24) j23 j23)]) (fun (z : List Int) (y : Unit) => []) (fun (z : List Int) (y : Unit) => [⟨.slice (some a24) j23 j23, 1, z.map encI⟩]) (fun _ _ => True) h17 ?_ ?_
        · intro t28 h26
          refine kwp_block ?_
          refine kwp_loopE (inv := [(0, .slice m0a m0.length m0c), (1, .slice right0a right0.length right0c), (6, .int .i64 v20), (7, .slice (some a24) j23 j23), (32, .int .i64 ((j23 : Nat) : Int))]) (fun (z : Int × List Int) (y : Unit) => [(33, .int .i64 z.1)]) (fun (z : Int × List Int) (y : Unit) => [⟨.slice (some a24) j23 j23, 1, z.2.map encI⟩]) (fun _ _ => True) h26 ⟨(), hd_mk trivial⟩ ?_
          intro z33 y34 b31 _ h32
          obtain ⟨x29, l30⟩ := z33
          unfold p_impl_Solve_L0 at h32
          refine kwp_seq ?_
          refine kwp_region ?_
          refine kd (v_cmp) ?_
          refine kops_nil ?_
          refine kn_then ?_
          refine kwp_seq ?_
          refine kwp_cond rfl (fun hc35 => ?_) (fun hc35 => ?_)
          ·
            replace h32 := e_t h32 hc35
            refine kwp_skip ?_
            refine kn_then ?_
            refine kwp_seq ?_
            refine kwp_block ?_
            refine kwp_seq ?_
            refine kwp_region ?_
            refine kd (v_mv) ?_
            refine kd (v_as) ?_
            refine kops_nil ?_
            refine kn_then ?_
            refine kwp_region ?_
            refine kd (v_mv) ?_
            refine kd (v_mv) ?_
            refine kd (v_mv) ?_
            refine kd (v_mv) ?_
            refine kd (v_mv) ?_
            obtain ⟨v37, hv36, h32⟩ := e_bind h32
            refine kk (n_call Tryd.call106 (w_impl_withColumn m0a m0.length m0c m0R right0a right0.length right0c hm0R hv36) ?_)
            rintro _ _ ⟨q38a, q38c, q38R, rfl, hq38R, rfl⟩
            obtain ⟨v40, hv39, h32⟩ := e_bind h32
            refine kk (n_call Tryd.call62 (w_impl_Det q38a v37.length q38c q38R hq38R hv39) ?_)
            rintro _ _ ⟨rfl, rfl⟩
            obtain ⟨j42, ej42, nj42, h32⟩ := e_idx h32
            refine kd (v_ia ej42 nj42 Tryd.runUnderlying26 Tryd.sizeOf3) ?_
            refine kk (s_f v40 nj42 Tryd.sizeOf3 ?_)
            refine kops_nil ?_
            refine kn_block ?_
            refine kn_then ?_
            refine kwp_region ?_
            refine kd (v_add) ?_
            refine kd (v_mv) ?_
            refine kops_nil ?_
            refine kn_then ?_
            obtain rfl := e_some h32
            exact ⟨_, (), rfl, hd_mk trivial⟩
          ·
            replace h32 := e_f h32 hc35
            refine kwp_exit ?_
            refine ke_then ?_
            obtain rfl := e_some h32
            refine k_out ?_ rfl
            rintro rfl
            refine ke_block ?_
            exact ⟨(), hd_mk trivial⟩
        · intro l25 y44 _ h45
          refine kn_then ?_
          refine kwp_seq ?_
          refine kwp_region ?_
          refine kd (v_mv) ?_
          refine kd (v_mv) ?_
          refine kd (v_as) ?_
          refine kd (v_as) ?_
          refine kops_nil ?_
          refine kn_then ?_
          refine k_len (c := j23) (fun hl46 => ?_)
          subst hl46
          refine kwp_ret ?_
          obtain rfl := e_some h45
          refine r2 [⟨.slice (some a24) (l25.length) (l25.length), 1, l25.map encI⟩] ?_
          exact ⟨some a24, (l25.length), rfl, rfl⟩

end Go.Proofs.YtnibfmofkamjoaaDoor
