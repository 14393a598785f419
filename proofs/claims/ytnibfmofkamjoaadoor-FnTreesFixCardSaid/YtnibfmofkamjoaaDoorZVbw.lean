/- What the plain programs return, the functions of the program return; no condition. -/
import Derived.Test.YtnibfmofkamjoaaDoorZQ
import Derived.Test.YtnibfmofkamjoaaDoorZFa
import Derived.Test.YtnibfmofkamjoaaDoorZVbv
namespace Go.Proofs.YtnibfmofkamjoaaDoor
open Go
set_option linter.unusedVariables false
set_option linter.unusedSimpArgs false

set_option maxRecDepth 20000 in
theorem w_impl_squareOf  {many0 : Int} {r : List (List Int)} (h : p_impl_squareOf many0 = some r) :
    Triple Tryd.prog 84 [.int .i64 many0] [] [] (fun v ch => ∃ (w0a : Option Addr) (w0c : Nat) (w0R : List Row), v = .slice w0a r.length w0c ∧ nums w0R = r ∧ ch = (⟨.slice w0a r.length w0c, 1, w0R.map encRow⟩ :: (rowsC w0R))) := by
  refine triple_start 19 Tryd.func84 Tryd.ntmps84 rfl rfl (fun w0 => ?_)
  unfold p_impl_squareOf at h
  refine kwp_seq ?_
  refine kwp_region ?_
  refine kops_nilM (fun R1 hR1 => ?_)
  refine kd (v_as) ?_
  refine kops_nil ?_
  refine kn_then ?_
  refine kwp_seq ?_
  refine kwp_region ?_
  refine kd (v_mv) ?_
  obtain ⟨j2, ej2, nj2, h⟩ := e_sized h
  refine kk (n_makeM ej2 nj2 Tryd.underlying51 Tryd.type26 (by decide) (fun a3 R4 hR4 => ?_))
  refine kd (v_as) ?_
  refine kops_nil ?_
  refine kn_then ?_
  refine kwp_seq ?_
  refine kwp_seq ?_
  refine kwp_region ?_
  refine kd (v_mv) ?_
  refine kd (v_len Tryd.runUnderlying51) ?_
  refine kd (v_mv) ?_
  refine kops_nil ?_
  refine kn_then ?_
  refine kwp_cutE (inv := [(3, .slice (some a3) j2 j2)]) (fun (z : List (List Int)) (y : List Row) => []) (fun (z : List (List Int)) (y : List Row) => (⟨.slice (some a3) j2 j2, 1, y.map encRow⟩ :: (rowsC y))) (fun (z : List (List Int)) (y : List Row) => nums y = z ∧ True) h ?_ ?_
  · intro t8 h6
    refine kwp_block ?_
    refine kwp_loopE (inv := [(0, .int .i64 many0), (3, .slice (some a3) j2 j2), (8, .int .i64 ((j2 : Nat) : Int))]) (fun (z : Int × List (List Int)) (y : List Row) => [(9, .int .i64 z.1)]) (fun (z : Int × List (List Int)) (y : List Row) => (⟨.slice (some a3) j2 j2, 1, y.map encRow⟩ :: (rowsC y))) (fun (z : Int × List (List Int)) (y : List Row) => nums y = z.2 ∧ True) h6 ⟨R4, hd_mk ⟨hR4, trivial⟩⟩ ?_
    intro z13 m10R b11 hp15 h12
    obtain ⟨x9, m10⟩ := z13
    obtain ⟨hm10R, _⟩ := hp15
    refine k_lenM (m := m10) hm10R (fun hl16 => ?_)
    unfold p_impl_squareOf_L0 at h12
    refine kwp_seq ?_
    refine kwp_region ?_
    refine kd (v_cmp) ?_
    refine kops_nil ?_
    refine kn_then ?_
    refine kwp_seq ?_
    refine kwp_cond rfl (fun hc17 => ?_) (fun hc17 => ?_)
    ·
      replace h12 := e_t h12 hc17
      refine kwp_skip ?_
      refine kn_then ?_
      refine kwp_seq ?_
      refine kwp_block ?_
      refine kwp_seq ?_
      refine kwp_region ?_
      refine kd (v_mv) ?_
      refine kd (v_as) ?_
      refine kops_nil ?_
      refine kn_then ?_
      refine kwp_region ?_
      refine kd (v_mv) ?_
      refine kd (v_mv) ?_
      refine kd (v_mv) ?_
      obtain ⟨j18, ej18, nj18, h12⟩ := e_sized h12
      refine kk (n_make (enc := encI) 0 ej18 nj18 Tryd.underlying26 Tryd.type3 (by decide) (fun a19 => ?_))
      obtain ⟨j20, ej20, nj20, h12⟩ := e_idx h12
      refine kd (v_ia ej20 nj20 Tryd.runUnderlying51 Tryd.sizeOf26) ?_
      refine kk (s_setrow (l := (List.replicate j18 0)) nj20 hm10R Tryd.sizeOf26 (fun R21 hR21 => ?_))
      refine kops_nil ?_
      refine kn_block ?_
      refine kn_then ?_
      refine kwp_region ?_
      refine kd (v_add) ?_
      refine kd (v_mv) ?_
      refine kops_nil ?_
      refine kn_then ?_
      obtain rfl := e_some h12
      exact ⟨_, R21, rfl, hd_mk ⟨hR21, trivial⟩⟩
    ·
      replace h12 := e_f h12 hc17
      refine kwp_exit ?_
      refine ke_then ?_
      obtain rfl := e_some h12
      refine k_out ?_ rfl
      rintro rfl
      refine ke_block ?_
      exact ⟨m10R, hd_mk ⟨hm10R, trivial⟩⟩
  · intro m5 m5R hp25 h24
    obtain ⟨hm5R, _⟩ := hp25
    refine k_lenM (m := m5) hm5R (fun hl26 => ?_)
    refine kwp_seq ?_
    refine kwp_region ?_
    refine kd (v_mv) ?_
    refine kd (v_as) ?_
    refine kops_nil ?_
    refine kn_then ?_
    refine k_lenM (c := j2) hm5R (fun hl27 => ?_)
    subst hl27
    refine kwp_ret ?_
    obtain rfl := e_some h24
    refine r1 (⟨.slice (some a3) (m5.length) (m5.length), 1, m5R.map encRow⟩ :: (rowsC m5R)) ?_
    exact ⟨some a3, (m5.length), m5R, rfl, hm5R, rfl⟩

set_option maxRecDepth 20000 in
theorem w_impl_addLink (m0a : Option Addr) (m0n : Nat) (m0c : Nat) (m0R : List Row) {m0 : List (List Int)} {a0 : Int} {b0 : Int} {weight0 : Int} (hm0R : nums m0R = m0) {r : List (List Int)} (h : p_impl_addLink m0 a0 b0 weight0 = some r) :
    Triple Tryd.prog 85 [.slice m0a m0n m0c, .int .i64 a0, .int .i64 b0, .int .i64 weight0] [] (⟨.slice m0a m0n m0c, 1, m0R.map encRow⟩ :: (rowsC m0R)) (fun v ch => ∃ (w0R : List Row), v = .tuple #[] ∧ nums w0R = r ∧ ch = (⟨.slice m0a m0n m0c, 1, w0R.map encRow⟩ :: (rowsC w0R))) := by
  refine triple_start 66 Tryd.func85 Tryd.ntmps85 rfl rfl (fun w0 => ?_)
  refine k_lenM (c := m0c) (m := m0) hm0R (fun hl1 => ?_)
  subst hl1
  unfold p_impl_addLink at h
  refine kwp_seq ?_
  refine kwp_seq ?_
  refine kwp_region ?_
  refine kd (v_mv) ?_
  refine kd (v_cmp) ?_
  refine kops_nil ?_
  refine kn_then ?_
  refine kwp_cutE (inv := [(0, .slice m0a m0.length m0c), (1, .int .i64 a0), (2, .int .i64 b0), (3, .int .i64 weight0)]) (fun (z : List (List Int)) (y : List Row) => []) (fun (z : List (List Int)) (y : List Row) => (⟨.slice m0a (m0.length) m0c, 1, y.map encRow⟩ :: (rowsC y))) (fun (z : List (List Int)) (y : List Row) => nums y = z ∧ True) h ?_ ?_
  · intro t5 h3
    refine kwp_cond rfl (fun hc6 => ?_) (fun hc6 => ?_)
    ·
      replace h3 := e_t h3 hc6
      refine kwp_region ?_
      refine kd (v_mv) ?_
      refine kd (v_mv) ?_
      refine kd (v_sub) ?_
      obtain ⟨j7, ej7, nj7, h3⟩ := e_idx h3
      refine kd (v_ia ej7 nj7 Tryd.runUnderlying51 Tryd.sizeOf26) ?_
      refine kd (v_ldr nj7 hm0R Tryd.isAgg26) ?_
      refine kd (v_mv) ?_
      refine kd (v_sub) ?_
      obtain ⟨j8, ej8, nj8, h3⟩ := e_idx h3
      refine kd (v_ia ej8 nj8 Tryd.runUnderlying26 Tryd.sizeOf3 (hm := by repeat (first | exact mr hm0R (by first | exact nj7 | (simpa using nj7) | omega | (simp only [List.length_set]; omega)) | exact mr0 hm0R (by first | exact nj7 | (simpa using nj7) | omega | (simp only [List.length_set]; omega)) | apply mt | apply mas | apply ms))) ?_
      refine kd (v_ldf nj8 Tryd.isAgg3 (hm := by repeat (first | exact mr hm0R (by first | exact nj7 | (simpa using nj7) | omega | (simp only [List.length_set]; omega)) | exact mr0 hm0R (by first | exact nj7 | (simpa using nj7) | omega | (simp only [List.length_set]; omega)) | apply mt | apply mas | apply ms))) ?_
      refine kd (v_mv) ?_
      refine kd (v_add) ?_
      refine kd (v_ia ej8 nj8 Tryd.runUnderlying26 Tryd.sizeOf3 (hm := by repeat (first | exact mr hm0R (by first | exact nj7 | (simpa using nj7) | omega | (simp only [List.length_set]; omega)) | exact mr0 hm0R (by first | exact nj7 | (simpa using nj7) | omega | (simp only [List.length_set]; omega)) | apply mt | apply mas | apply ms))) ?_
      refine kk (s_row (by first | exact nj7 | (simpa using nj7) | omega | (simp only [List.length_set]; omega)) nj8 hm0R Tryd.sizeOf3 (fun R9 hR9 => ?_))
      refine kops_nil ?_
      refine kn_then ?_
      obtain rfl := e_some h3
      exact ⟨R9, hd_mk ⟨hR9, trivial⟩⟩
    ·
      replace h3 := e_f h3 hc6
      refine kwp_skip ?_
      refine kn_then ?_
      obtain rfl := e_some h3
      exact ⟨m0R, hd_mk ⟨hm0R, trivial⟩⟩
  · intro m2 m2R hp13 h12
    obtain ⟨hm2R, _⟩ := hp13
    refine k_lenM (m := m2) hm2R (fun hl14 => ?_)
    refine kwp_seq ?_
    refine kwp_seq ?_
    refine kwp_region ?_
    refine kd (v_mv) ?_
    refine kd (v_cmp) ?_
    refine kops_nil ?_
    refine kn_then ?_
    refine kwp_cutE (inv := [(0, .slice m0a m0.length m0c), (1, .int .i64 a0), (2, .int .i64 b0), (3, .int .i64 weight0)]) (fun (z : List (List Int)) (y : List Row) => []) (fun (z : List (List Int)) (y : List Row) => (⟨.slice m0a (m0.length) m0c, 1, y.map encRow⟩ :: (rowsC y))) (fun (z : List (List Int)) (y : List Row) => nums y = z ∧ True) h12 ?_ ?_
    · intro t18 h16
      refine kwp_cond rfl (fun hc19 => ?_) (fun hc19 => ?_)
      ·
        replace h16 := e_t h16 hc19
        refine kwp_region ?_
        refine kd (v_mv) ?_
        refine kd (v_mv) ?_
        refine kd (v_sub) ?_
        obtain ⟨j20, ej20, nj20, h16⟩ := e_idx h16
        refine kd (v_ia ej20 nj20 Tryd.runUnderlying51 Tryd.sizeOf26) ?_
        refine kd (v_ldr nj20 hm2R Tryd.isAgg26) ?_
        refine kd (v_mv) ?_
        refine kd (v_sub) ?_
        obtain ⟨j21, ej21, nj21, h16⟩ := e_idx h16
        refine kd (v_ia ej21 nj21 Tryd.runUnderlying26 Tryd.sizeOf3 (hm := by repeat (first | exact mr hm2R (by first | exact nj20 | (simpa using nj20) | omega | (simp only [List.length_set]; omega)) | exact mr0 hm2R (by first | exact nj20 | (simpa using nj20) | omega | (simp only [List.length_set]; omega)) | apply mt | apply mas | apply ms))) ?_
        refine kd (v_ldf nj21 Tryd.isAgg3 (hm := by repeat (first | exact mr hm2R (by first | exact nj20 | (simpa using nj20) | omega | (simp only [List.length_set]; omega)) | exact mr0 hm2R (by first | exact nj20 | (simpa using nj20) | omega | (simp only [List.length_set]; omega)) | apply mt | apply mas | apply ms))) ?_
        refine kd (v_mv) ?_
        refine kd (v_add) ?_
        refine kd (v_ia ej21 nj21 Tryd.runUnderlying26 Tryd.sizeOf3 (hm := by repeat (first | exact mr hm2R (by first | exact nj20 | (simpa using nj20) | omega | (simp only [List.length_set]; omega)) | exact mr0 hm2R (by first | exact nj20 | (simpa using nj20) | omega | (simp only [List.length_set]; omega)) | apply mt | apply mas | apply ms))) ?_
        refine kk (s_row (by first | exact nj20 | (simpa using nj20) | omega | (simp only [List.length_set]; omega)) nj21 hm2R Tryd.sizeOf3 (fun R22 hR22 => ?_))
        refine kops_nil ?_
        refine kn_then ?_
        obtain rfl := e_some h16
        exact ⟨R22, hd_mk ⟨hR22, trivial⟩⟩
      ·
        replace h16 := e_f h16 hc19
        refine kwp_skip ?_
        refine kn_then ?_
        obtain rfl := e_some h16
        exact ⟨m2R, hd_mk ⟨hm2R, trivial⟩⟩
    · intro m15 m15R hp26 h25
      obtain ⟨hm15R, _⟩ := hp26
      refine k_lenM (m := m15) hm15R (fun hl27 => ?_)
      refine kwp_seq ?_
      refine kwp_cutE (inv := [(0, .slice m0a m0.length m0c), (1, .int .i64 a0), (2, .int .i64 b0), (3, .int .i64 weight0)]) (fun (z : Bool) (y : Unit) => [(41, .bool z)]) (fun (z : Bool) (y : Unit) => (⟨.slice m0a (m0.length) m0c, 1, m15R.map encRow⟩ :: (rowsC m15R))) (fun _ _ => True) h25 ?_ ?_
      · intro t31 h29
        refine kwp_region ?_
        refine kd (v_mv) ?_
        refine kd (v_cmp) ?_
        refine kd (v_mv) ?_
        refine kops_split 38 rfl (fun hb32 => ?_) (fun hb32 => ?_)
        ·
          replace h29 := e_t h29 hb32
          refine kgd hb32 (v_mv) ?_
          refine kgd hb32 (v_cmp) ?_
          refine kd (v_pt hb32) ?_
          refine kops_nil ?_
          refine kn_then ?_
          obtain rfl := e_some h29
          exact ⟨(), hd_mk trivial⟩
        ·
          replace h29 := e_f h29 hb32
          refine kskip hb32 ?_
          refine kskip hb32 ?_
          refine kd (v_pf hb32) ?_
          refine kops_nil ?_
          refine kn_then ?_
          obtain rfl := e_some h29
          exact ⟨(), hd_mk trivial⟩
      · intro x28 y34 _ h35
        refine k_lenM (m := m15) hm15R (fun hl36 => ?_)
        refine kwp_cond rfl (fun hc37 => ?_) (fun hc37 => ?_)
        ·
          replace h35 := e_t h35 hc37
          refine kwp_seq ?_
          refine kwp_region ?_
          refine kd (v_mv) ?_
          refine kd (v_mv) ?_
          refine kd (v_sub) ?_
          obtain ⟨j38, ej38, nj38, h35⟩ := e_idx h35
          refine kd (v_ia ej38 nj38 Tryd.runUnderlying51 Tryd.sizeOf26) ?_
          refine kd (v_ldr nj38 hm15R Tryd.isAgg26) ?_
          refine kd (v_mv) ?_
          refine kd (v_sub) ?_
          obtain ⟨j39, ej39, nj39, h35⟩ := e_idx h35
          refine kd (v_ia ej39 nj39 Tryd.runUnderlying26 Tryd.sizeOf3 (hm := by repeat (first | exact mr hm15R (by first | exact nj38 | (simpa using nj38) | omega | (simp only [List.length_set]; omega)) | exact mr0 hm15R (by first | exact nj38 | (simpa using nj38) | omega | (simp only [List.length_set]; omega)) | apply mt | apply mas | apply ms))) ?_
          refine kd (v_ldf nj39 Tryd.isAgg3 (hm := by repeat (first | exact mr hm15R (by first | exact nj38 | (simpa using nj38) | omega | (simp only [List.length_set]; omega)) | exact mr0 hm15R (by first | exact nj38 | (simpa using nj38) | omega | (simp only [List.length_set]; omega)) | apply mt | apply mas | apply ms))) ?_
          refine kd (v_mv) ?_
          refine kd (v_sub) ?_
          refine kd (v_ia ej39 nj39 Tryd.runUnderlying26 Tryd.sizeOf3 (hm := by repeat (first | exact mr hm15R (by first | exact nj38 | (simpa using nj38) | omega | (simp only [List.length_set]; omega)) | exact mr0 hm15R (by first | exact nj38 | (simpa using nj38) | omega | (simp only [List.length_set]; omega)) | apply mt | apply mas | apply ms))) ?_
          refine kk (s_row (by first | exact nj38 | (simpa using nj38) | omega | (simp only [List.length_set]; omega)) nj39 hm15R Tryd.sizeOf3 (fun R40 hR40 => ?_))
          refine kops_nil ?_
          refine kn_then ?_
          refine kwp_region ?_
          refine kd (v_mv) ?_
          refine kd (v_mv) ?_
          refine kd (v_sub) ?_
          obtain ⟨j41, ej41, nj41, h35⟩ := e_idx h35
          refine kd (v_ia ej41 nj41 Tryd.runUnderlying51 Tryd.sizeOf26) ?_
          refine kd (v_ldr nj41 hR40 Tryd.isAgg26) ?_
          refine kd (v_mv) ?_
          refine kd (v_sub) ?_
          obtain ⟨j42, ej42, nj42, h35⟩ := e_idx h35
          refine kd (v_ia ej42 nj42 Tryd.runUnderlying26 Tryd.sizeOf3 (hm := by repeat (first | exact mr hR40 (by first | exact nj41 | (simpa using nj41) | omega | (simp only [List.length_set]; omega)) | exact mr0 hR40 (by first | exact nj41 | (simpa using nj41) | omega | (simp only [List.length_set]; omega)) | apply mt | apply mas | apply ms))) ?_
          refine kd (v_ldf nj42 Tryd.isAgg3 (hm := by repeat (first | exact mr hR40 (by first | exact nj41 | (simpa using nj41) | omega | (simp only [List.length_set]; omega)) | exact mr0 hR40 (by first | exact nj41 | (simpa using nj41) | omega | (simp only [List.length_set]; omega)) | apply mt | apply mas | apply ms))) ?_
          refine kd (v_mv) ?_
          refine kd (v_sub) ?_
          refine kd (v_ia ej42 nj42 Tryd.runUnderlying26 Tryd.sizeOf3 (hm := by repeat (first | exact mr hR40 (by first | exact nj41 | (simpa using nj41) | omega | (simp only [List.length_set]; omega)) | exact mr0 hR40 (by first | exact nj41 | (simpa using nj41) | omega | (simp only [List.length_set]; omega)) | apply mt | apply mas | apply ms))) ?_
          refine kk (s_row (by first | exact nj41 | (simpa using nj41) | omega | (simp only [List.length_set]; omega)) nj42 hR40 Tryd.sizeOf3 (fun R43 hR43 => ?_))
          refine kops_nil ?_
          obtain rfl := e_some h35
          refine r0n (⟨.slice m0a (m0.length) m0c, 1, R43.map encRow⟩ :: (rowsC R43)) ?_
          exact ⟨R43, rfl, hR43, rfl⟩
        ·
          replace h35 := e_f h35 hc37
          refine kwp_skip ?_
          obtain rfl := e_some h35
          refine r0n (⟨.slice m0a (m0.length) m0c, 1, m15R.map encRow⟩ :: (rowsC m15R)) ?_
          exact ⟨m15R, rfl, hm15R, rfl⟩

end Go.Proofs.YtnibfmofkamjoaaDoor
