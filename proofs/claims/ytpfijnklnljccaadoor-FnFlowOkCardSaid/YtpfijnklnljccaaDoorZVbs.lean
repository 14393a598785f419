/- What the plain programs return, the functions of the program return; no condition. -/
import Derived.Test.YtpfijnklnljccaaDoorZQ
import Derived.Test.YtpfijnklnljccaaDoorZFa
import Derived.Test.YtpfijnklnljccaaDoorZVbp
import Derived.Test.YtpfijnklnljccaaDoorZVbd
import Derived.Test.YtpfijnklnljccaaDoorZVbk
namespace Go.Proofs.YtpfijnklnljccaaDoor
open Go
set_option linter.unusedVariables false
set_option linter.unusedSimpArgs false

set_option maxRecDepth 20000 in
theorem w_impl_withColumn (m0a : Option Addr) (m0n : Nat) (m0c : Nat) (m0R : List Row) (numbers0a : Option Addr) (numbers0n : Nat) (numbers0c : Nat) {m0 : List (List Int)} {column0 : Int} {numbers0 : List Int} (hm0R : nums m0R = m0) {r : List (List Int)} (h : p_impl_withColumn m0 column0 numbers0 = some r) :
    Triple Tryd.prog 106 [.slice m0a m0n m0c, .int .i64 column0, .slice numbers0a numbers0n numbers0c] (⟨.slice m0a m0n m0c, 1, m0R.map encRow⟩ :: ⟨.slice numbers0a numbers0n numbers0c, 1, numbers0.map encI⟩ :: (rowsC m0R)) [] (fun v ch => ∃ (w0a : Option Addr) (w0c : Nat) (w0R : List Row), v = .slice w0a r.length w0c ∧ nums w0R = r ∧ ch = (⟨.slice w0a r.length w0c, 1, w0R.map encRow⟩ :: (rowsC w0R))) := by
  refine triple_start 37 Tryd.func106 Tryd.ntmps106 rfl rfl (fun w0 => ?_)
  refine k_lenM (c := m0c) (m := m0) hm0R (fun hl1 => ?_)
  subst hl1
  refine k_len (c := numbers0c) (fun hl2 => ?_)
  subst hl2
  unfold p_impl_withColumn at h
  refine kwp_seq ?_
  refine kwp_region ?_
  refine kops_nilM (fun R3 hR3 => ?_)
  refine kd (v_as) ?_
  refine kops_nil ?_
  refine kn_then ?_
  refine kwp_seq ?_
  refine kwp_region ?_
  refine kd (v_mv) ?_
  refine kd (v_len Tryd.runUnderlying42) ?_
  obtain ⟨j4, ej4, nj4, h⟩ := e_sized h
  refine kk (n_makeM ej4 nj4 Tryd.underlying42 Tryd.type46 (by decide) (fun a5 R6 hR6 => ?_))
  refine kd (v_as) ?_
  refine kops_nil ?_
  refine kn_then ?_
  refine kwp_seq ?_
  refine kwp_seq ?_
  refine kwp_region ?_
  refine kd (v_mv) ?_
  refine kd (v_len Tryd.runUnderlying42) ?_
  refine kd (v_mv) ?_
  refine kops_nil ?_
  refine kn_then ?_
  refine kwp_cutE (inv := [(7, .slice (some a5) j4 j4)]) (fun (z : List (List Int)) (y : List Row) => []) (fun (z : List (List Int)) (y : List Row) => (⟨.slice (some a5) j4 j4, 1, y.map encRow⟩ :: (rowsC y))) (fun (z : List (List Int)) (y : List Row) => nums y = z ∧ True) h ?_ ?_
  · intro t10 h8
    refine kwp_block ?_
    refine kwp_loopE (inv := [(1, .int .i64 column0), (2, .slice numbers0a numbers0.length numbers0c), (7, .slice (some a5) j4 j4), (13, .slice m0a m0.length m0c), (14, .int .i64 ((m0.length : Nat) : Int))]) (fun (z : Int × List (List Int)) (y : List Row) => [(15, .int .i64 z.1)]) (fun (z : Int × List (List Int)) (y : List Row) => (⟨.slice (some a5) j4 j4, 1, y.map encRow⟩ :: (rowsC y))) (fun (z : Int × List (List Int)) (y : List Row) => nums y = z.2 ∧ True) h8 ⟨R6, hd_mk ⟨hR6, trivial⟩⟩ ?_
    intro z15 m12R b13 hp17 h14
    obtain ⟨x11, m12⟩ := z15
    obtain ⟨hm12R, _⟩ := hp17
    refine k_lenM (m := m12) hm12R (fun hl18 => ?_)
    unfold p_impl_withColumn_L0 at h14
    refine kwp_seq ?_
    refine kwp_region ?_
    refine kd (v_cmp) ?_
    refine kops_nil ?_
    refine kn_then ?_
    refine kwp_seq ?_
    refine kwp_cond rfl (fun hc19 => ?_) (fun hc19 => ?_)
    ·
      replace h14 := e_t h14 hc19
      refine kwp_skip ?_
      refine kn_then ?_
      refine kwp_seq ?_
      refine kwp_block ?_
      refine kwp_seq ?_
      refine kwp_region ?_
      refine kd (v_mv) ?_
      obtain ⟨j20, ej20, nj20, h14⟩ := e_idx h14
      refine kd (v_ia ej20 nj20 Tryd.runUnderlying42 Tryd.sizeOf46) ?_
      refine kd (v_ldr nj20 hm0R Tryd.isAgg46) ?_
      refine kd (v_as) ?_
      refine kd (v_as) ?_
      refine kops_nil ?_
      refine kn_then ?_
      refine kwp_seq ?_
      refine kwp_region ?_
      refine kd (v_mv) ?_
      refine kd (v_mv) ?_
      refine kd (v_mv) ?_
      obtain ⟨v22, hv21, h14⟩ := e_bind h14
      refine kk (n_call Tryd.call116 (w_slices_Clone_int_int ((gx m0R j20).a) ((gx m0 j20).length) ((gx m0R j20).c) hv21) ?_ (hv := (Views.cons (by repeat (first | exact mr hm0R (by first | exact nj20 | (simpa using nj20) | omega | (simp only [List.length_set]; omega)) | exact mr0 hm0R (by first | exact nj20 | (simpa using nj20) | omega | (simp only [List.length_set]; omega)) | apply mt | apply mas | apply ms)) (View.refl _) (Views.nil _))))
      rintro _ _ ⟨q23a, q23c, rfl, rfl⟩
      obtain ⟨j24, ej24, nj24, h14⟩ := e_idx h14
      refine kd (v_ia ej24 nj24 Tryd.runUnderlying42 Tryd.sizeOf46) ?_
      refine kk (s_setrow (l := v22) nj24 hm12R Tryd.sizeOf46 (fun R25 hR25 => ?_))
      refine kops_nil ?_
      refine kn_then ?_
      obtain ⟨j26, ej26, nj26, h14⟩ := e_idx h14
      obtain ⟨j27, ej27, nj27, h14⟩ := e_idx h14
      refine kwp_tree (.quiet 0 (.quiet 1 (.quiet 2 (.quiet 3 (.quiet 4 (.quiet 5 (.quiet 6 (.quiet 7 (.quiet 8 (.quiet 9 (.one 10 .stop))))))))))) [10] (⟨.slice (some a5) j4 j4, 1, R25.map encRow⟩ :: (rowsC R25)) drawMixed (by kernel_rfl) nopan (by (repeat (first | exact Sub.refl _ | exact Sub.nil _ | refine Sub.chunk (by repeat (first | exact Pick.here | apply Pick.there | apply Pick.seg)) (by rfl) ?_ | refine Sub.seg (by repeat (first | exact PickSeg.here | exact PickSeg.all | apply PickSeg.there | apply PickSeg.seg)) ?_ | exact Sub.seg0 (by repeat (first | exact PickSeg.here | exact PickSeg.all | apply PickSeg.there | apply PickSeg.seg)) | apply Sub.assoc))) ?_
      refine kt_d rfl rfl rfl (v_mv) ?_
      refine kt_d rfl rfl rfl (v_mv) ?_
      refine kt_d rfl rfl rfl (v_ia ej24 nj24 Tryd.runUnderlying42 Tryd.sizeOf46) ?_
      refine kt_d rfl rfl rfl (v_ldr nj24 hR25 Tryd.isAgg46) ?_
      refine kt_d rfl rfl rfl (v_mv) ?_
      refine kt_d rfl rfl rfl (v_mv) ?_
      refine kt_d rfl rfl rfl (v_mv) ?_
      refine kt_d rfl rfl rfl (v_ia ej26 nj26 Tryd.runUnderlying46 Tryd.sizeOf3) ?_
      refine kt_d rfl rfl rfl (v_ldf nj26 Tryd.isAgg3) ?_
      refine kt_d rfl rfl rfl (v_ia ej27 nj27 Tryd.runUnderlying46 Tryd.sizeOf3 (hm := by repeat (first | exact mr hR25 (by first | exact nj24 | (simpa using nj24) | omega | (simp only [List.length_set]; omega)) | exact mr0 hR25 (by first | exact nj24 | (simpa using nj24) | omega | (simp only [List.length_set]; omega)) | apply mt | apply mas | apply ms))) ?_
      refine kt_one ?_
      refine kl_k rfl rfl (s_row (by first | exact nj24 | (simpa using nj24) | omega | (simp only [List.length_set]; omega)) nj27 hR25 Tryd.sizeOf3 (fun R28 hR28 => ?_))
      refine ⟨.inr ⟨by decide, rfl⟩, ?_⟩
      refine kt_nil ?_
      refine kn_block ?_
      refine kn_then ?_
      refine kwp_region ?_
      refine kd (v_add) ?_
      refine kd (v_mv) ?_
      refine kops_nil ?_
      refine kn_then ?_
      obtain rfl := e_some h14
      exact ⟨_, R28, rfl, hd_mk ⟨hR28, trivial⟩⟩
    ·
      replace h14 := e_f h14 hc19
      refine kwp_exit ?_
      refine ke_then ?_
      obtain rfl := e_some h14
      refine k_out ?_ rfl
      rintro rfl
      refine ke_block ?_
      exact ⟨m12R, hd_mk ⟨hm12R, trivial⟩⟩
  · intro m7 m7R hp32 h31
    obtain ⟨hm7R, _⟩ := hp32
    refine k_lenM (m := m7) hm7R (fun hl33 => ?_)
    refine kwp_seq ?_
    refine kwp_region ?_
    refine kd (v_mv) ?_
    refine kd (v_as) ?_
    refine kops_nil ?_
    refine kn_then ?_
    refine k_lenM (c := j4) hm7R (fun hl34 => ?_)
    subst hl34
    refine kwp_ret ?_
    obtain rfl := e_some h31
    refine r1 (⟨.slice (some a5) (m7.length) (m7.length), 1, m7R.map encRow⟩ :: (rowsC m7R)) ?_
    exact ⟨some a5, (m7.length), m7R, rfl, hm7R, rfl⟩

set_option maxRecDepth 20000 in
set_option maxHeartbeats 2000000 in
theorem w_impl_Solve (m0a : Option Addr) (m0n : Nat) (m0c : Nat) (m0R : List Row) (right0a : Option Addr) (right0n : Nat) (right0c : Nat) {m0 : List (List Int)} {right0 : List Int} (hm0R : nums m0R = m0) {r : List Int × Int} (h : p_impl_Solve m0 right0 = some r) :
    Triple Tryd.prog 87 [.slice m0a m0n m0c, .slice right0a right0n right0c] (⟨.slice m0a m0n m0c, 1, m0R.map encRow⟩ :: ⟨.slice right0a right0n right0c, 1, right0.map encI⟩ :: (rowsC m0R)) [] (fun v ch => ∃ (w0a : Option Addr) (w0c : Nat), v = .tuple #[.slice w0a r.1.length w0c, .int .i64 r.2] ∧ ch = [⟨.slice w0a r.1.length w0c, 1, r.1.map encI⟩]) := by
  refine triple_start 47 Tryd.func87 Tryd.ntmps87 rfl rfl (fun w0 => ?_)
  refine k_lenM (c := m0c) (m := m0) hm0R (fun hl1 => ?_)
  subst hl1
  refine k_len (c := right0c) (fun hl2 => ?_)
  subst hl2
  unfold p_impl_Solve at h
  refine kwp_seq ?_
  refine kwp_region ?_
  refine kops_nilchunk 1 (by decide) ?_
  refine kd (v_as) ?_
  refine kd (v_as) ?_
  refine kops_nil ?_
  refine kn_then ?_
  refine kwp_seq ?_
  refine kwp_seq ?_
  refine kwp_cutE (inv := [(0, .slice m0a m0.length m0c), (1, .slice right0a right0.length right0c)]) (fun (z : Bool) (y : Unit) => [(23, .bool z)]) (fun (z : Bool) (y : Unit) => []) (fun _ _ => True) h ?_ ?_
  · intro t6 h4
    refine kwp_region ?_
    refine kd (v_mv) ?_
    obtain ⟨v8, hv7, h4⟩ := e_bind h4
    refine kk (n_call Tryd.call71 (w_impl_MatrixValid m0a m0.length m0c m0R hm0R hv7) ?_)
    rintro _ _ ⟨rfl, rfl⟩
    refine kd (v_not) ?_
    refine kd (v_mv) ?_
    refine kops_split 12 rfl (fun hb10 => ?_) (fun hb10 => ?_)
    ·
      replace h4 := e_t h4 hb10
      refine kskip hb10 ?_
      refine kskip hb10 ?_
      refine kskip hb10 ?_
      refine kskip hb10 ?_
      refine kskip hb10 ?_
      refine kd (v_pt hb10) ?_
      refine kd (v_mv) ?_
      refine kskip rfl ?_
      refine kskip rfl ?_
      refine kskip rfl ?_
      refine kd (v_pt rfl) ?_
      refine kops_nil ?_
      refine kn_then ?_
      obtain rfl := e_some h4
      exact ⟨(), hd_mk trivial⟩
    ·
      replace h4 := e_f h4 hb10
      refine kgd hb10 (v_mv) ?_
      refine kgd hb10 (v_len Tryd.runUnderlying46) ?_
      refine kgd hb10 (v_mv) ?_
      refine kgd hb10 (v_len Tryd.runUnderlying42) ?_
      refine kgd hb10 (v_cmp) ?_
      refine kd (v_pf hb10) ?_
      refine kd (v_mv) ?_
      refine kops_split 19 rfl (fun hb11 => ?_) (fun hb11 => ?_)
      ·
        replace h4 := e_t h4 hb11
        refine kskip hb11 ?_
        refine kskip hb11 ?_
        refine kskip hb11 ?_
        refine kd (v_pt hb11) ?_
        refine kops_nil ?_
        refine kn_then ?_
        obtain rfl := e_some h4
        exact ⟨(), hd_mk trivial⟩
      ·
        replace h4 := e_f h4 hb11
        refine kgd hb11 (v_mv) ?_
        obtain ⟨v13, hv12, h4⟩ := e_bind h4
        refine kgk hb11 (n_call Tryd.call94 (w_impl_entriesFit right0a right0.length right0c hv12) ?_)
        rintro _ _ ⟨rfl, rfl⟩
        refine kgd hb11 (v_not) ?_
        refine kd (v_pf hb11) ?_
        refine kops_nil ?_
        refine kn_then ?_
        obtain rfl := e_some h4
        exact ⟨(), hd_mk trivial⟩
  · intro x3 y16 _ h17
    refine kn_then ?_
    refine kwp_cond rfl (fun hc18 => ?_) (fun hc18 => ?_)
    ·
      replace h17 := e_t h17 hc18
      refine kwp_seq ?_
      refine kwp_region ?_
      refine kops_nilchunk 1 (by decide) ?_
      refine kd (v_as) ?_
      refine kd (v_as) ?_
      refine kops_nil ?_
      refine kn_then ?_
      refine kwp_ret ?_
      refine kr_then ?_
      obtain rfl := e_some h17
      refine r2 [⟨.slice none 0 0, 1, ([] : List Int).map encI⟩] ?_
      exact ⟨none, 0, rfl, rfl⟩
    ·
      replace h17 := e_f h17 hc18
      refine kwp_skip ?_
      refine kn_then ?_
      refine kwp_seq ?_
      refine kwp_region ?_
      refine kd (v_mv) ?_
      obtain ⟨v20, hv19, h17⟩ := e_bind h17
      refine kk (n_call Tryd.call77 (w_impl_Det m0a m0.length m0c m0R hm0R hv19) ?_)
      rintro _ _ ⟨rfl, rfl⟩
      refine kd (v_as) ?_
      refine kops_nil ?_
      refine kn_then ?_
      refine kwp_seq ?_
      refine kwp_seq ?_
      refine kwp_region ?_
      refine kd (v_mv) ?_
      refine kd (v_cmp) ?_
      refine kops_nil ?_
      refine kn_then ?_
      refine kwp_cond rfl (fun hc22 => ?_) (fun hc22 => ?_)
      ·
        replace h17 := e_t h17 hc22
        refine kwp_seq ?_
        refine kwp_region ?_
        refine kops_nilchunk 1 (by decide) ?_
        refine kd (v_as) ?_
        refine kd (v_as) ?_
        refine kops_nil ?_
        refine kn_then ?_
        refine kwp_ret ?_
        refine kr_then ?_
        obtain rfl := e_some h17
        refine r2 [⟨.slice none 0 0, 1, ([] : List Int).map encI⟩] ?_
        exact ⟨none, 0, rfl, rfl⟩
      ·
        replace h17 := e_f h17 hc22
        refine kwp_skip ?_
        refine kn_then ?_
        refine kwp_seq ?_
        refine kwp_region ?_
        refine kd (v_mv) ?_
        refine kd (v_len Tryd.runUnderlying42) ?_
        obtain ⟨j23, ej23, nj23, h17⟩ := e_sized h17
        refine kk (n_make (enc := encI) 0 ej23 nj23 Tryd.underlying46 Tryd.type3 (by decide) (fun a24 => ?_))
        refine kd (v_as) ?_
        refine kops_nil ?_
        refine kn_then ?_
        refine kwp_seq ?_
        refine kwp_seq ?_
        refine kwp_region ?_
        refine kd (v_mv) ?_
        refine kd (v_len Tryd.runUnderlying46) ?_
        refine kd (v_mv) ?_
        refine kops_nil ?_
        refine kn_then ?_
        refine kwp_cutE (inv := [(6, .int .i64 v20), (7, .slice (some a24) j23 j23)]) (fun (z : List Int) (y : Unit) => []) (fun (z : List Int) (y : Unit) => [⟨.slice (some a24) j23 j23, 1, z.map encI⟩]) (fun _ _ => True) h17 ?_ ?_
        · intro t28 h26
          refine kwp_block ?_
          refine kwp_loopE (inv := [(0, .slice m0a m0.length m0c), (1, .slice right0a right0.length right0c), (6, .int .i64 v20), (7, .slice (some a24) j23 j23), (32, .int .i64 ((j23 : Nat) : Int))]) (fun (z : Int × List Int) (y : Unit) => [(33, .int .i64 z.1)]) (fun (z : Int × List Int) (y : Unit) => [⟨.slice (some a24) j23 j23, 1, z.2.map encI⟩]) (fun _ _ => True) h26 ⟨(), hd_mk trivial⟩ ?_
          intro z33 y34 b31 _ h32
          obtain ⟨x29, l30⟩ := z33
          unfold p_impl_Solve_L0 at h32
          refine kwp_seq ?_
          refine kwp_region ?_
          refine kd (v_cmp) ?_
          refine kops_nil ?_
          refine kn_then ?_
          refine kwp_seq ?_
          refine kwp_cond rfl (fun hc35 => ?_) (fun hc35 => ?_)
          ·
            replace h32 := e_t h32 hc35
            refine kwp_skip ?_
            refine kn_then ?_
            refine kwp_seq ?_
            refine kwp_block ?_
            refine kwp_seq ?_
            refine kwp_region ?_
            refine kd (v_mv) ?_
            refine kd (v_as) ?_
            refine kops_nil ?_
            refine kn_then ?_
            refine kwp_region ?_
            refine kd (v_mv) ?_
            refine kd (v_mv) ?_
            refine kd (v_mv) ?_
            refine kd (v_mv) ?_
            refine kd (v_mv) ?_
            obtain ⟨v37, hv36, h32⟩ := e_bind h32
            refine kk (n_call Tryd.call106 (w_impl_withColumn m0a m0.length m0c m0R right0a right0.length right0c hm0R hv36) ?_)
            rintro _ _ ⟨q38a, q38c, q38R, rfl, hq38R, rfl⟩
            obtain ⟨v40, hv39, h32⟩ := e_bind h32
            refine kk (n_call Tryd.call77 (w_impl_Det q38a v37.length q38c q38R hq38R hv39) ?_)
            rintro _ _ ⟨rfl, rfl⟩
            obtain ⟨j42, ej42, nj42, h32⟩ := e_idx h32
            refine kd (v_ia ej42 nj42 Tryd.runUnderlying46 Tryd.sizeOf3) ?_
            refine kk (s_f v40 nj42 Tryd.sizeOf3 ?_)
            refine kops_nil ?_
            refine kn_block ?_
            refine kn_then ?_
            refine kwp_region ?_
            refine kd (v_add) ?_
            refine kd (v_mv) ?_
            refine kops_nil ?_
            refine kn_then ?_
            obtain rfl := e_some h32
            exact ⟨_, (), rfl, hd_mk trivial⟩
          ·
            replace h32 := e_f h32 hc35
            refine kwp_exit ?_
            refine ke_then ?_
            obtain rfl := e_some h32
            refine k_out ?_ rfl
            rintro rfl
            refine ke_block ?_
            exact ⟨(), hd_mk trivial⟩
        · intro l25 y44 _ h45
          refine kn_then ?_
          refine kwp_seq ?_
          refine kwp_region ?_
          refine kd (v_mv) ?_
          refine kd (v_mv) ?_
          refine kd (v_as) ?_
          refine kd (v_as) ?_
          refine kops_nil ?_
          refine kn_then ?_
          refine k_len (c := j23) (fun hl46 => ?_)
          subst hl46
          refine kwp_ret ?_
          obtain rfl := e_some h45
          refine r2 [⟨.slice (some a24) (l25.length) (l25.length), 1, l25.map encI⟩] ?_
          exact ⟨some a24, (l25.length), rfl, rfl⟩

set_option maxRecDepth 20000 in
theorem w_impl_Pressures (m01a : Option Addr) (m01n : Nat) (m01c : Nat) {m0 : Mine} {in0 : Int} {out0 : Int} {r : List Int × Bool} (h : p_impl_Pressures m0 in0 out0 = some r) :
    Triple Tryd.prog 46 [.agg #[.int .i64 m0.p, .slice m01a m01n m01c], .int .i64 in0, .int .i64 out0] [⟨.slice m01a m01n m01c, 3, m0.aw.map encAirway⟩] [] (fun v ch => ∃ (w0a : Option Addr) (w0c : Nat), v = .tuple #[.slice w0a r.1.length w0c, .bool r.2] ∧ ch = [⟨.slice w0a r.1.length w0c, 1, r.1.map encI⟩]) := by
  refine triple_start 60 Tryd.func46 Tryd.ntmps46 rfl rfl (fun w0 => ?_)
  refine k_len (c := m01c) (fun hl1 => ?_)
  subst hl1
  unfold p_impl_Pressures at h
  refine kwp_seq ?_
  refine kwp_region ?_
  refine kk (n_box (e := [.int .i64 m0.p, .slice m01a m0.aw.length m01c]) 2 (fun p3_2 => ?_))
  refine kops_nilchunk 1 (by decide) ?_
  refine kd (v_as) ?_
  refine kd (v_as) ?_
  refine kops_nil ?_
  refine kn_then ?_
  refine kwp_seq ?_
  refine kwp_seq ?_
  refine kwp_cutE (inv := [(1, .int .i64 in0), (2, .int .i64 out0), (3, .pointer (some p3_2))]) (fun (z : Bool) (y : Unit) => [(28, .bool z)]) (fun (z : Bool) (y : Unit) => [⟨.pointer (some p3_2), 2, [[.int .i64 m0.p, .slice m01a m0.aw.length m01c]]⟩]) (fun _ _ => True) h ?_ ?_
  · intro t6 h4
    refine kwp_region ?_
    refine kd (v_ldB Tryd.isAgg32 Tryd.sizeOf32) ?_
    obtain ⟨v8, hv7, h4⟩ := e_bind h4
    refine kk (n_call Tryd.call26 (w_impl_AirLinked m01a m0.aw.length m01c hv7) ?_)
    rintro _ _ ⟨rfl, rfl⟩
    refine kd (v_not) ?_
    refine kd (v_mv) ?_
    refine kops_split 15 rfl (fun hb10 => ?_) (fun hb10 => ?_)
    ·
      replace h4 := e_t h4 hb10
      refine kskip hb10 ?_
      refine kskip hb10 ?_
      refine kskip hb10 ?_
      refine kskip hb10 ?_
      refine kskip hb10 ?_
      refine kd (v_pt hb10) ?_
      refine kd (v_mv) ?_
      refine kskip rfl ?_
      refine kskip rfl ?_
      refine kskip rfl ?_
      refine kskip rfl ?_
      refine kskip rfl ?_
      refine kd (v_pt rfl) ?_
      refine kops_nil ?_
      refine kn_then ?_
      obtain rfl := e_some h4
      exact ⟨(), hd_mk trivial⟩
    ·
      replace h4 := e_f h4 hb10
      refine kgd hb10 (v_mv) ?_
      refine kgd hb10 (v_fb fa_32_0) ?_
      refine kgd hb10 (v_ldb Tryd.isAgg3) ?_
      obtain ⟨v12, hv11, h4⟩ := e_bind h4
      refine kgk hb10 (n_call Tryd.call63 (w_impl_isIndex hv11) ?_)
      rintro _ _ ⟨rfl, rfl⟩
      refine kgd hb10 (v_not) ?_
      refine kd (v_pf hb10) ?_
      refine kd (v_mv) ?_
      refine kops_split 22 rfl (fun hb14 => ?_) (fun hb14 => ?_)
      ·
        replace h4 := e_t h4 hb14
        refine kskip hb14 ?_
        refine kskip hb14 ?_
        refine kskip hb14 ?_
        refine kskip hb14 ?_
        refine kskip hb14 ?_
        refine kd (v_pt hb14) ?_
        refine kops_nil ?_
        refine kn_then ?_
        obtain rfl := e_some h4
        exact ⟨(), hd_mk trivial⟩
      ·
        replace h4 := e_f h4 hb14
        refine kgd hb14 (v_mv) ?_
        refine kgd hb14 (v_fb fa_32_0) ?_
        refine kgd hb14 (v_ldb Tryd.isAgg3) ?_
        obtain ⟨v16, hv15, h4⟩ := e_bind h4
        refine kgk hb14 (n_call Tryd.call63 (w_impl_isIndex hv15) ?_)
        rintro _ _ ⟨rfl, rfl⟩
        refine kgd hb14 (v_not) ?_
        refine kd (v_pf hb14) ?_
        refine kops_nil ?_
        refine kn_then ?_
        obtain rfl := e_some h4
        exact ⟨(), hd_mk trivial⟩
  · intro x3 y19 _ h20
    refine kn_then ?_
    refine kwp_cond rfl (fun hc21 => ?_) (fun hc21 => ?_)
    ·
      replace h20 := e_t h20 hc21
      refine kwp_seq ?_
      refine kwp_region ?_
      refine kops_nilchunk 1 (by decide) ?_
      refine kd (v_as) ?_
      refine kd (v_as) ?_
      refine kops_nil ?_
      refine kn_then ?_
      refine kwp_ret ?_
      refine kr_then ?_
      obtain rfl := e_some h20
      refine r2 [⟨.slice none 0 0, 1, ([] : List Int).map encI⟩] ?_
      exact ⟨none, 0, rfl, rfl⟩
    ·
      replace h20 := e_f h20 hc21
      refine kwp_skip ?_
      refine kn_then ?_
      refine kwp_seq ?_
      refine kwp_region ?_
      refine kd (v_fb fa_32_0) ?_
      refine kd (v_ldb Tryd.isAgg3) ?_
      obtain ⟨j22, ej22, nj22, h20⟩ := e_sized h20
      refine kk (n_make (enc := encI) 0 ej22 nj22 Tryd.underlying46 Tryd.type3 (by decide) (fun a23 => ?_))
      refine kd (v_as) ?_
      refine kops_nil ?_
      refine kn_then ?_
      refine kwp_seq ?_
      refine kwp_region ?_
      refine kd (v_mv) ?_
      refine kd (v_mv) ?_
      obtain ⟨j24, ej24, nj24, h20⟩ := e_idx h20
      refine kd (v_ia ej24 nj24 Tryd.runUnderlying46 Tryd.sizeOf3) ?_
      refine kd (v_ldf nj24 Tryd.isAgg3) ?_
      refine kd (v_add) ?_
      refine kd (v_ia ej24 nj24 Tryd.runUnderlying46 Tryd.sizeOf3) ?_
      refine kk (s_f (w64 ((gx (List.replicate j22 0) j24) + 1)) nj24 Tryd.sizeOf3 ?_)
      refine kops_nil ?_
      refine kn_then ?_
      refine kwp_seq ?_
      refine kwp_region ?_
      refine kd (v_mv) ?_
      refine kd (v_mv) ?_
      obtain ⟨j25, ej25, nj25, h20⟩ := e_idx h20
      refine kd (v_ia ej25 nj25 Tryd.runUnderlying46 Tryd.sizeOf3) ?_
      refine kd (v_ldf nj25 Tryd.isAgg3) ?_
      refine kd (v_sub) ?_
      refine kd (v_ia ej25 nj25 Tryd.runUnderlying46 Tryd.sizeOf3) ?_
      refine kk (s_f (w64 ((gx ((List.replicate j22 0).set j24 (w64 ((gx (List.replicate j22 0) j24) + 1))) j25) - 1)) nj25 Tryd.sizeOf3 ?_)
      refine kops_nil ?_
      refine kn_then ?_
      refine kwp_seq ?_
      obtain ⟨v27, hv26, h20⟩ := e_bind h20
      obtain ⟨j29, j30, ej29, ej30, oj29, oj30, h20⟩ := e_cut h20
      obtain ⟨⟨v32, v33⟩, hv31, h20⟩ := e_bind h20
      refine kwp_tree (.quiet 0 (.quiet 2 (.quiet 3 (.one 1 (.one 4 (.quiet 5 (.quiet 6 (.quiet 7 (.quiet 8 (.quiet 9 .stop)))))))))) [] [⟨.pointer (some p3_2), 2, [[.int .i64 m0.p, .slice m01a m0.aw.length m01c]]⟩, ⟨.slice (some a23) j22 j22, 1, (((List.replicate j22 0).set j24 (w64 ((gx (List.replicate j22 0) j24) + 1))).set j25 (w64 ((gx ((List.replicate j22 0).set j24 (w64 ((gx (List.replicate j22 0) j24) + 1))) j25) - 1))).map encI⟩] drawMixed (by kernel_rfl) nopan (by (repeat (first | exact Sub.refl _ | exact Sub.nil _ | refine Sub.chunk (by repeat (first | exact Pick.here | apply Pick.there | apply Pick.seg)) (by rfl) ?_ | refine Sub.seg (by repeat (first | exact PickSeg.here | exact PickSeg.all | apply PickSeg.there | apply PickSeg.seg)) ?_ | exact Sub.seg0 (by repeat (first | exact PickSeg.here | exact PickSeg.all | apply PickSeg.there | apply PickSeg.seg)) | apply Sub.assoc))) ?_
      refine kt_d rfl rfl rfl (v_ldB Tryd.isAgg32 Tryd.sizeOf32) ?_
      refine kt_d rfl rfl rfl (v_mv) ?_
      refine kt_d rfl rfl rfl (v_sl (l := j29) (h := j30) oj29 oj30 Tryd.runUnderlying46 Tryd.sizeOf3 (hlo := by exact ⟨_, _, rfl, ej29⟩) (hhi := by show _ = _; omega)) ?_
      refine kt_one ?_
      refine kl_k rfl rfl (n_call Tryd.call28 (w_impl_AirMatrix m01a m0.aw.length m01c hv26) ?_)
      rintro _ _ ⟨q28a, q28c, q28R, rfl, hq28R, rfl⟩
      refine ⟨.inl (by (repeat (first | exact Sub.refl _ | exact Sub.nil _ | refine Sub.chunk (by repeat (first | exact Pick.here | apply Pick.there | apply Pick.seg)) (by rfl) ?_ | refine Sub.seg (by repeat (first | exact PickSeg.here | exact PickSeg.all | apply PickSeg.there | apply PickSeg.seg)) ?_ | exact Sub.seg0 (by repeat (first | exact PickSeg.here | exact PickSeg.all | apply PickSeg.there | apply PickSeg.seg)) | apply Sub.assoc))), ?_⟩
      refine kt_one ?_
      refine kl_k rfl rfl (n_call Tryd.call87 (w_impl_Solve q28a v27.length q28c q28R (subA (some a23) j22 1 j29) (j30 - j29) (j22 - j29) hq28R hv31) ?_ (hv := (Views.cons (by repeat (first | exact mh | apply mt | apply mas | apply ms)) (View.refl _) (Views.cons (by repeat (first | exact mh | apply mt | apply mas | apply ms)) (view_cut (c := j22) oj29 oj30) (Views.seg0 (by repeat (first | exact sub_here | exact sub_self | apply sub_there | apply sub_assoc | apply sub_seg)))))))
      rintro _ _ ⟨q34a, q34c, rfl, rfl⟩
      refine ⟨.inl (by (repeat (first | exact Sub.refl _ | exact Sub.nil _ | refine Sub.chunk (by repeat (first | exact Pick.here | apply Pick.there | apply Pick.seg)) (by rfl) ?_ | refine Sub.seg (by repeat (first | exact PickSeg.here | exact PickSeg.all | apply PickSeg.there | apply PickSeg.seg)) ?_ | exact Sub.seg0 (by repeat (first | exact PickSeg.here | exact PickSeg.all | apply PickSeg.there | apply PickSeg.seg)) | apply Sub.assoc))), ?_⟩
      refine kt_d rfl rfl rfl (v_mv) ?_
      refine kt_d rfl rfl rfl (v_ex) ?_
      refine kt_d rfl rfl rfl (v_ex) ?_
      refine kt_d rfl rfl rfl (v_as) ?_
      refine kt_d rfl rfl rfl (v_as) ?_
      refine kt_nil ?_
      refine kn_then ?_
      refine kwp_seq ?_
      refine kwp_region ?_
      refine kd (v_fb fa_32_0) ?_
      refine kd (v_ldb Tryd.isAgg3) ?_
      obtain ⟨j36, ej36, nj36, h20⟩ := e_sized h20
      refine kk (n_make (enc := encI) 0 ej36 nj36 Tryd.underlying46 Tryd.type3 (by decide) (fun a37 => ?_))
      refine kd (v_as) ?_
      refine kops_nil ?_
      refine kn_then ?_
      refine kwp_seq ?_
      obtain ⟨j38, j39, ej38, ej39, oj38, oj39, h20⟩ := e_cut h20
      refine kwp_region ?_
      refine kd (v_mv) ?_
      refine kd (v_sl (l := j38) (h := j39) oj38 oj39 Tryd.runUnderlying46 Tryd.sizeOf3 (hlo := by exact ⟨_, _, rfl, ej38⟩) (hhi := by show _ = _; omega)) ?_
      refine kd (v_mv) ?_
      refine kk (n_copyp (enc := encI) oj38 oj39 ok_encI Tryd.runUnderlying46 Tryd.sizeOf3 ?_)
      refine kops_nil ?_
      refine kn_then ?_
      refine kwp_seq ?_
      refine kwp_region ?_
      refine kd (v_mv) ?_
      refine kd (v_as) ?_
      refine kd (v_as) ?_
      refine kops_nil ?_
      refine kn_then ?_
      refine k_len (c := j36) (fun hl40 => ?_)
      refine kwp_ret ?_
      obtain rfl := e_some h20
      refine r2 [⟨.slice (some a37) j36 j36, 1, ((List.replicate j36 0).take j38 ++ (v32.take (min v32.length (j39 - j38)) ++ (List.replicate j36 0).drop (j38 + (min v32.length (j39 - j38))))).map encI⟩] ?_
      exact ⟨some a37, j36, by first | rfl | (rw [← hl40] <;> rfl) | ((try dsimp only); rw [← hl40] <;> rfl) | (simp; done), by first | rfl | (rw [← hl40] <;> rfl) | ((try dsimp only); rw [← hl40] <;> rfl) | (simp; done)⟩

set_option maxRecDepth 20000 in
theorem w_impl_AirFlow (m01a : Option Addr) (m01n : Nat) (m01c : Nat) {m0 : Mine} {in0 : Int} {out0 : Int} {r : List Int × Bool} (h : p_impl_AirFlow m0 in0 out0 = some r) :
    Triple Tryd.prog 44 [.agg #[.int .i64 m0.p, .slice m01a m01n m01c], .int .i64 in0, .int .i64 out0] [⟨.slice m01a m01n m01c, 3, m0.aw.map encAirway⟩] [] (fun v ch => ∃ (w0a : Option Addr) (w0c : Nat), v = .tuple #[.slice w0a r.1.length w0c, .bool r.2] ∧ ch = [⟨.slice w0a r.1.length w0c, 1, r.1.map encI⟩]) := by
  refine triple_start 53 Tryd.func44 Tryd.ntmps44 rfl rfl (fun w0 => ?_)
  refine k_len (c := m01c) (fun hl1 => ?_)
  subst hl1
  unfold p_impl_AirFlow at h
  refine kwp_seq ?_
  refine kwp_region ?_
  refine kk (n_box (e := [.int .i64 m0.p, .slice m01a m0.aw.length m01c]) 2 (fun p3_2 => ?_))
  refine kops_nilchunk 1 (by decide) ?_
  refine kd (v_as) ?_
  refine kd (v_as) ?_
  refine kops_nil ?_
  refine kn_then ?_
  refine kwp_seq ?_
  refine kwp_region ?_
  refine kd (v_ldB Tryd.isAgg32 Tryd.sizeOf32) ?_
  refine kd (v_mv) ?_
  refine kd (v_mv) ?_
  obtain ⟨⟨v4, v5⟩, hv3, h⟩ := e_bind h
  refine kk (n_call Tryd.call46 (w_impl_Pressures m01a m0.aw.length m01c hv3) ?_)
  rintro _ _ ⟨q6a, q6c, rfl, rfl⟩
  refine kd (v_mv) ?_
  refine kd (v_ex) ?_
  refine kd (v_ex) ?_
  refine kd (v_as) ?_
  refine kd (v_as) ?_
  refine kops_nil ?_
  refine kn_then ?_
  refine kwp_seq ?_
  refine kwp_seq ?_
  refine kwp_region ?_
  refine kd (v_mv) ?_
  refine kd (v_not) ?_
  refine kops_nil ?_
  refine kn_then ?_
  refine kwp_cond rfl (fun hc8 => ?_) (fun hc8 => ?_)
  ·
    replace h := e_t h hc8
    refine kwp_seq ?_
    refine kwp_region ?_
    refine kops_nilchunk 1 (by decide) ?_
    refine kd (v_as) ?_
    refine kd (v_as) ?_
    refine kops_nil ?_
    refine kn_then ?_
    refine kwp_ret ?_
    refine kr_then ?_
    obtain rfl := e_some h
    refine r2 [⟨.slice none 0 0, 1, ([] : List Int).map encI⟩] ?_
    exact ⟨none, 0, rfl, rfl⟩
  ·
    replace h := e_f h hc8
    refine kwp_skip ?_
    refine kn_then ?_
    refine kwp_seq ?_
    refine kwp_region ?_
    refine kd (v_fb fa_32_1) ?_
    refine kd (v_ldb Tryd.isAgg30) ?_
    refine kd (v_len Tryd.runUnderlying30) ?_
    obtain ⟨j9, ej9, nj9, h⟩ := e_sized h
    refine kk (n_make (enc := encI) 0 ej9 nj9 Tryd.underlying46 Tryd.type3 (by decide) (fun a10 => ?_))
    refine kd (v_as) ?_
    refine kops_nil ?_
    refine kn_then ?_
    refine kwp_seq ?_
    refine kwp_seq ?_
    refine kwp_region ?_
    refine kd (v_fb fa_32_1) ?_
    refine kd (v_ldb Tryd.isAgg30) ?_
    refine kd (v_len Tryd.runUnderlying30) ?_
    refine kd (v_mv) ?_
    refine kops_nil ?_
    refine kn_then ?_
    refine kwp_cutE (inv := [(10, .slice (some a10) j9 j9)]) (fun (z : List Int) (y : Unit) => []) (fun (z : List Int) (y : Unit) => [⟨.slice (some a10) j9 j9, 1, z.map encI⟩]) (fun _ _ => True) h ?_ ?_
    · intro t14 h12
      refine kwp_block ?_
      refine kwp_loopE (inv := [(8, .slice q6a v4.length q6c), (10, .slice (some a10) j9 j9), (27, .slice m01a m0.aw.length m01c), (28, .int .i64 ((m0.aw.length : Nat) : Int))]) (fun (z : Int × List Int) (y : Unit) => [(29, .int .i64 z.1)]) (fun (z : Int × List Int) (y : Unit) => [⟨.slice (some a10) j9 j9, 1, z.2.map encI⟩, ⟨.slice q6a v4.length q6c, 1, v4.map encI⟩]) (fun _ _ => True) h12 ⟨(), hd_mk trivial⟩ ?_
      intro z19 y20 b17 _ h18
      obtain ⟨x15, l16⟩ := z19
      unfold p_impl_AirFlow_L0 at h18
      refine kwp_seq ?_
      refine kwp_region ?_
      refine kd (v_cmp) ?_
      refine kops_nil ?_
      refine kn_then ?_
      refine kwp_seq ?_
      refine kwp_cond rfl (fun hc21 => ?_) (fun hc21 => ?_)
      ·
        replace h18 := e_t h18 hc21
        refine kwp_skip ?_
        refine kn_then ?_
        refine kwp_seq ?_
        refine kwp_block ?_
        refine kwp_seq ?_
        refine kwp_region ?_
        refine kd (v_mv) ?_
        obtain ⟨j22, ej22, nj22, h18⟩ := e_idx h18
        refine kd (v_ia ej22 nj22 Tryd.runUnderlying30 Tryd.sizeOf36) ?_
        refine kd (v_lda (e := [_, _, _]) nj22 Tryd.isAgg36 Tryd.sizeOf36) ?_
        refine kk (n_alloc (e := [.int .i64 0, .int .i64 0, .int .i64 0]) 3 Tryd.zeroValue36 (fun p12_23 => ?_))
        refine kd (v_as) ?_
        refine kk (s_B (e' := [.int .i64 ((gx m0.aw j22).f), .int .i64 ((gx m0.aw j22).t), .int .i64 ((gx m0.aw j22).w)]) Tryd.sizeOf36 ?_)
        refine kops_nil ?_
        refine kn_then ?_
        obtain ⟨j24, ej24, nj24, h18⟩ := e_idx h18
        obtain ⟨j25, ej25, nj25, h18⟩ := e_idx h18
        obtain ⟨j26, ej26, nj26, h18⟩ := e_idx h18
        refine kwp_tree (.quiet 0 (.quiet 1 (.quiet 2 (.quiet 3 (.quiet 4 (.quiet 5 (.quiet 6 (.quiet 7 (.quiet 8 (.quiet 9 (.quiet 10 (.quiet 11 (.quiet 12 (.quiet 13 (.quiet 14 (.quiet 15 (.quiet 16 (.one 17 .stop)))))))))))))))))) [17] [⟨.slice q6a v4.length q6c, 1, v4.map encI⟩, ⟨.slice (some a10) j9 j9, 1, l16.map encI⟩, ⟨.pointer (some p12_23), 3, [[.int .i64 ((gx m0.aw j22).f), .int .i64 ((gx m0.aw j22).t), .int .i64 ((gx m0.aw j22).w)]]⟩] drawMixed (by kernel_rfl) nopan (by (repeat (first | exact Sub.refl _ | exact Sub.nil _ | refine Sub.chunk (by repeat (first | exact Pick.here | apply Pick.there | apply Pick.seg)) (by rfl) ?_ | refine Sub.seg (by repeat (first | exact PickSeg.here | exact PickSeg.all | apply PickSeg.there | apply PickSeg.seg)) ?_ | exact Sub.seg0 (by repeat (first | exact PickSeg.here | exact PickSeg.all | apply PickSeg.there | apply PickSeg.seg)) | apply Sub.assoc))) ?_
        refine kt_d rfl rfl rfl (v_mv) ?_
        refine kt_d rfl rfl rfl (v_mv) ?_
        refine kt_d rfl rfl rfl (v_fb fa_36_2) ?_
        refine kt_d rfl rfl rfl (v_ldb Tryd.isAgg3) ?_
        refine kt_d rfl rfl rfl (v_mv) ?_
        refine kt_d rfl rfl rfl (v_fb fa_36_0) ?_
        refine kt_d rfl rfl rfl (v_ldb Tryd.isAgg3) ?_
        refine kt_d rfl rfl rfl (v_ia ej24 nj24 Tryd.runUnderlying46 Tryd.sizeOf3) ?_
        refine kt_d rfl rfl rfl (v_ldf nj24 Tryd.isAgg3) ?_
        refine kt_d rfl rfl rfl (v_mv) ?_
        refine kt_d rfl rfl rfl (v_fb fa_36_1) ?_
        refine kt_d rfl rfl rfl (v_ldb Tryd.isAgg3) ?_
        refine kt_d rfl rfl rfl (v_ia ej25 nj25 Tryd.runUnderlying46 Tryd.sizeOf3) ?_
        refine kt_d rfl rfl rfl (v_ldf nj25 Tryd.isAgg3) ?_
        refine kt_d rfl rfl rfl (v_sub) ?_
        refine kt_d rfl rfl rfl (v_mul) ?_
        refine kt_d rfl rfl rfl (v_ia ej26 nj26 Tryd.runUnderlying46 Tryd.sizeOf3) ?_
        refine kt_one ?_
        refine kl_k rfl rfl (s_f (w64 (((gx m0.aw j22).w) * (w64 ((gx v4 j24) - (gx v4 j25))))) nj26 Tryd.sizeOf3 ?_)
        refine ⟨.inr ⟨by decide, rfl⟩, ?_⟩
        refine kt_nil ?_
        refine kn_block ?_
        refine kn_then ?_
        refine kwp_region ?_
        refine kd (v_add) ?_
        refine kd (v_mv) ?_
        refine kops_nil ?_
        refine kn_then ?_
        obtain rfl := e_some h18
        exact ⟨_, (), rfl, hd_mk trivial⟩
      ·
        replace h18 := e_f h18 hc21
        refine kwp_exit ?_
        refine ke_then ?_
        obtain rfl := e_some h18
        refine k_out ?_ rfl
        rintro rfl
        refine ke_block ?_
        exact ⟨(), hd_mk trivial⟩
    · intro l11 y28 _ h29
      refine kn_then ?_
      refine kwp_seq ?_
      refine kwp_region ?_
      refine kd (v_mv) ?_
      refine kd (v_as) ?_
      refine kd (v_as) ?_
      refine kops_nil ?_
      refine kn_then ?_
      refine k_len (c := j9) (fun hl30 => ?_)
      subst hl30
      refine kwp_ret ?_
      obtain rfl := e_some h29
      refine r2 [⟨.slice (some a10) (l11.length) (l11.length), 1, l11.map encI⟩] ?_
      exact ⟨some a10, (l11.length), rfl, rfl⟩

end Go.Proofs.YtpfijnklnljccaaDoor
