/- What the plain programs return, the functions of the program return; no condition. -/
import Derived.Test.YtnibfmofkamjoaaDoorZQ
import Derived.Test.YtnibfmofkamjoaaDoorZFa
import Derived.Test.YtnibfmofkamjoaaDoorZVbp
import Derived.Test.YtnibfmofkamjoaaDoorZVbd
namespace Go.Proofs.YtnibfmofkamjoaaDoor
open Go
set_option linter.unusedVariables false
set_option linter.unusedSimpArgs false

set_option maxRecDepth 20000 in
theorem w_spec_l2Column (m0a : Option Addr) (m0n : Nat) (m0c : Nat) (m0R : List Row) (list0a : Option Addr) (list0n : Nat) (list0c : Nat) {m0 : List (List Int)} {column0 : Int} {list0 : List Int} (hm0R : nums m0R = m0) {r : List (List Int)} (h : p_spec_l2Column m0 column0 list0 = some r) :
    Triple Tryd.prog 107 [.slice m0a m0n m0c, .int .i64 column0, .slice list0a list0n list0c] (⟨.slice m0a m0n m0c, 1, m0R.map encRow⟩ :: ⟨.slice list0a list0n list0c, 1, list0.map encI⟩ :: (rowsC m0R)) [] (fun v ch => ∃ (w0a : Option Addr) (w0c : Nat) (w0R : List Row), v = .slice w0a r.length w0c ∧ nums w0R = r ∧ ch = (⟨.slice w0a r.length w0c, 1, w0R.map encRow⟩ :: (rowsC w0R))) := by
  refine triple_start 35 Tryd.func107 Tryd.ntmps107 rfl rfl (fun w0 => ?_)
  refine k_lenM (c := m0c) (m := m0) hm0R (fun hl1 => ?_)
  subst hl1
  refine k_len (c := list0c) (fun hl2 => ?_)
  subst hl2
  unfold p_spec_l2Column at h
  refine kwp_seq ?_
  refine kwp_region ?_
  refine kops_nilM (fun R3 hR3 => ?_)
  refine kd (v_as) ?_
  refine kops_nil ?_
  refine kn_then ?_
  refine kwp_seq ?_
  refine kwp_region ?_
  refine kk (n_litM Tryd.runUnderlying51 Tryd.sizeOf26 Tryd.zeroValue26 (fun a4 R5 hR5 => ?_))
  refine kd (v_as) ?_
  refine kops_nil ?_
  refine kn_then ?_
  refine kwp_seq ?_
  refine kwp_seq ?_
  refine kwp_region ?_
  refine kd (v_as) ?_
  refine kops_nil ?_
  refine kn_then ?_
  refine kwp_cutE (inv := []) (fun (z : List (List Int)) (y : Option Addr × Nat × Nat × List Row) => [(7, .slice y.1 y.2.1 y.2.2.1)]) (fun (z : List (List Int)) (y : Option Addr × Nat × Nat × List Row) => (⟨.slice y.1 y.2.1 y.2.2.1, 1, y.2.2.2.map encRow⟩ :: (rowsC y.2.2.2))) (fun (z : List (List Int)) (y : Option Addr × Nat × Nat × List Row) => nums y.2.2.2 = z ∧ True) h ?_ ?_
  · intro t9 h7
    refine kwp_block ?_
    refine kwp_loopE (inv := [(0, .slice m0a m0.length m0c), (1, .int .i64 column0), (2, .slice list0a list0.length list0c)]) (fun (z : List (List Int) × Int) (y : Option Addr × Nat × Nat × List Row) => [(7, .slice y.1 y.2.1 y.2.2.1), (8, .int .i64 z.2)]) (fun (z : List (List Int) × Int) (y : Option Addr × Nat × Nat × List Row) => (⟨.slice y.1 y.2.1 y.2.2.1, 1, y.2.2.2.map encRow⟩ :: (rowsC y.2.2.2))) (fun (z : List (List Int) × Int) (y : Option Addr × Nat × Nat × List Row) => nums y.2.2.2 = z.1 ∧ True) h7 ⟨(some a4, 0, 0, R5), hd_mk ⟨hR5, trivial⟩⟩ ?_
    intro z14 y15 b12 hp16 h13
    obtain ⟨out10, k11⟩ := z14
    obtain ⟨out10a, out10n, out10c, out10R⟩ := y15
    obtain ⟨hout10R, _⟩ := hp16
    refine k_lenM (c := out10c) (m := out10) hout10R (fun hl17 => ?_)
    subst hl17
    unfold p_spec_l2Column_L0 at h13
    refine kwp_seq ?_
    refine kwp_seq ?_
    refine kwp_region ?_
    refine kd (v_mv) ?_
    refine kd (v_mv) ?_
    refine kd (v_len Tryd.runUnderlying51) ?_
    refine kd (v_cmp) ?_
    refine kops_nil ?_
    refine kn_then ?_
    refine kwp_cond rfl (fun hc18 => ?_) (fun hc18 => ?_)
    ·
      replace h13 := e_t h13 hc18
      refine kwp_skip ?_
      refine kn_then ?_
      refine kwp_seq ?_
      refine kwp_block ?_
      refine kwp_seq ?_
      refine kwp_region ?_
      refine kk (n_lit (enc := encI) [] ([] : List Int) Tryd.runUnderlying26 Tryd.sizeOf3 Tryd.zeroValue3 (fun a19 => ?_))
      refine kd (v_mv) ?_
      refine kd (v_mv) ?_
      obtain ⟨j20, ej20, nj20, h13⟩ := e_idx h13
      refine kd (v_ia ej20 nj20 Tryd.runUnderlying51 Tryd.sizeOf26) ?_
      refine kd (v_ldr nj20 hm0R Tryd.isAgg26) ?_
      obtain ⟨hz21, h13⟩ := e_need h13
      refine kk (n_app (enc := encI) ok_encI hz21 Tryd.underlying26 Tryd.type3 (by decide) (fun a22 c23 => ?_) (hm := by repeat (first | exact mr hm0R (by first | exact nj20 | (simpa using nj20) | omega | (simp only [List.length_set]; omega)) | exact mr0 hm0R (by first | exact nj20 | (simpa using nj20) | omega | (simp only [List.length_set]; omega)) | apply mt | apply mas | apply ms)))
      refine kd (v_as) ?_
      refine kops_nil ?_
      refine kn_then ?_
      refine kwp_seq ?_
      refine kwp_region ?_
      refine kd (v_mv) ?_
      refine kd (v_mv) ?_
      refine kd (v_mv) ?_
      refine kd (v_mv) ?_
      obtain ⟨j24, ej24, nj24, h13⟩ := e_idx h13
      refine kd (v_ia ej24 nj24 Tryd.runUnderlying26 Tryd.sizeOf3) ?_
      refine kd (v_ldf nj24 Tryd.isAgg3) ?_
      obtain ⟨j25, ej25, nj25, h13⟩ := e_idx h13
      refine kd (v_ia ej25 nj25 Tryd.runUnderlying26 Tryd.sizeOf3) ?_
      refine kk (s_f (gx list0 j24) nj25 Tryd.sizeOf3 ?_)
      refine kops_nil ?_
      refine kn_then ?_
      refine kwp_region ?_
      refine kd (v_mv) ?_
      refine kd (v_mv) ?_
      refine kk (n_lit (enc := fun v => v) [_] [[.slice a22 ((([] : List Int) ++ (gx m0 j20)).length) c23]] Tryd.runUnderlying51 Tryd.sizeOf26 Tryd.zeroValue26 (fun a26 => ?_))
      obtain ⟨hz27, h13⟩ := e_need h13
      refine kk (n_appM (l := ((([] : List Int) ++ (gx m0 j20)).set j25 (gx list0 j24))) hout10R hz27 Tryd.underlying51 Tryd.type26 (by decide) (fun a28 c29 R30 hR30 => ?_))
      refine kd (v_as) ?_
      refine kops_nil ?_
      refine kn_block ?_
      refine kn_then ?_
      refine kwp_region ?_
      refine kd (v_mv) ?_
      refine kd (v_add) ?_
      refine kd (v_as) ?_
      refine kops_nil ?_
      refine kn_then ?_
      obtain rfl := e_some h13
      exact ⟨_, (a28, (out10 ++ [(([] : List Int) ++ (gx m0 j20)).set j25 (gx list0 j24)]).length, c29, R30), rfl, hd_mk ⟨hR30, trivial⟩⟩
    ·
      replace h13 := e_f h13 hc18
      refine kwp_exit ?_
      refine ke_then ?_
      obtain rfl := e_some h13
      refine k_out ?_ rfl
      rintro rfl
      refine ke_block ?_
      exact ⟨(out10a, out10.length, out10c, out10R), hd_mk ⟨hout10R, trivial⟩⟩
  · intro out6 y32 hp34 h33
    obtain ⟨out6a, out6n, out6c, out6R⟩ := y32
    obtain ⟨hout6R, _⟩ := hp34
    refine k_lenM (c := out6c) (m := out6) hout6R (fun hl35 => ?_)
    subst hl35
    refine kwp_seq ?_
    refine kwp_region ?_
    refine kd (v_mv) ?_
    refine kd (v_as) ?_
    refine kops_nil ?_
    refine kn_then ?_
    refine kwp_ret ?_
    obtain rfl := e_some h33
    refine r1 (⟨.slice out6a (out6.length) out6c, 1, out6R.map encRow⟩ :: (rowsC out6R)) ?_
    exact ⟨out6a, out6c, out6R, rfl, hout6R, rfl⟩

set_option maxRecDepth 20000 in
set_option maxHeartbeats 2000000 in
theorem w_spec_Solve (m0a : Option Addr) (m0n : Nat) (m0c : Nat) (m0R : List Row) (right0a : Option Addr) (right0n : Nat) (right0c : Nat) {m0 : List (List Int)} {right0 : List Int} (hm0R : nums m0R = m0) {r : List Int × Int} (h : p_spec_Solve m0 right0 = some r) :
    Triple Tryd.prog 61 [.slice m0a m0n m0c, .slice right0a right0n right0c] (⟨.slice m0a m0n m0c, 1, m0R.map encRow⟩ :: ⟨.slice right0a right0n right0c, 1, right0.map encI⟩ :: (rowsC m0R)) [] (fun v ch => ∃ (w0a : Option Addr) (w0c : Nat), v = .tuple #[.slice w0a r.1.length w0c, .int .i64 r.2] ∧ ch = [⟨.slice w0a r.1.length w0c, 1, r.1.map encI⟩]) := by
  refine triple_start 52 Tryd.func61 Tryd.ntmps61 rfl rfl (fun w0 => ?_)
  refine k_lenM (c := m0c) (m := m0) hm0R (fun hl1 => ?_)
  subst hl1
  refine k_len (c := right0c) (fun hl2 => ?_)
  subst hl2
  unfold p_spec_Solve at h
  refine kwp_seq ?_
  refine kwp_region ?_
  refine kops_nilchunk 1 (by decide) ?_
  refine kd (v_as) ?_
  refine kd (v_as) ?_
  refine kops_nil ?_
  refine kn_then ?_
  refine kwp_seq ?_
  refine kwp_region ?_
  refine kk (n_lit (enc := encI) [] ([] : List Int) Tryd.runUnderlying26 Tryd.sizeOf3 Tryd.zeroValue3 (fun a3 => ?_))
  refine kd (v_as) ?_
  refine kops_nil ?_
  refine kn_then ?_
  refine kwp_seq ?_
  refine kwp_region ?_
  refine kd (v_mv) ?_
  obtain ⟨v5, hv4, h⟩ := e_bind h
  refine kk (n_call Tryd.call64 (w_spec_Det m0a m0.length m0c m0R hm0R hv4) ?_)
  rintro _ _ ⟨rfl, rfl⟩
  refine kd (v_as) ?_
  refine kops_nil ?_
  refine kn_then ?_
  refine kwp_seq ?_
  refine kwp_seq ?_
  refine kwp_cutE (inv := [(0, .slice m0a m0.length m0c), (1, .slice right0a right0.length right0c), (6, .slice (some a3) 0 0), (7, .int .i64 v5)]) (fun (z : Bool) (y : Unit) => [(21, .bool z)]) (fun (z : Bool) (y : Unit) => [⟨.slice (some a3) 0 0, 1, ([] : List Int).map encI⟩]) (fun _ _ => True) h ?_ ?_
  · intro t10 h8
    refine kwp_region ?_
    refine kd (v_mv) ?_
    refine kd (v_cmp) ?_
    refine kd (v_mv) ?_
    refine kops_split 15 rfl (fun hb11 => ?_) (fun hb11 => ?_)
    ·
      replace h8 := e_t h8 hb11
      refine kskip hb11 ?_
      refine kskip hb11 ?_
      refine kskip hb11 ?_
      refine kskip hb11 ?_
      refine kskip hb11 ?_
      refine kd (v_pt hb11) ?_
      refine kops_nil ?_
      refine kn_then ?_
      obtain rfl := e_some h8
      exact ⟨(), hd_mk trivial⟩
    ·
      replace h8 := e_f h8 hb11
      refine kgd hb11 (v_mv) ?_
      refine kgd hb11 (v_len Tryd.runUnderlying26) ?_
      refine kgd hb11 (v_mv) ?_
      refine kgd hb11 (v_len Tryd.runUnderlying51) ?_
      refine kgd hb11 (v_cmp) ?_
      refine kd (v_pf hb11) ?_
      refine kops_nil ?_
      refine kn_then ?_
      obtain rfl := e_some h8
      exact ⟨(), hd_mk trivial⟩
  · intro x7 y13 _ h14
    refine kn_then ?_
    refine kwp_cond rfl (fun hc15 => ?_) (fun hc15 => ?_)
    ·
      replace h14 := e_t h14 hc15
      refine kwp_seq ?_
      refine kwp_region ?_
      refine kd (v_mv) ?_
      refine kd (v_as) ?_
      refine kd (v_as) ?_
      refine kops_nil ?_
      refine kn_then ?_
      refine kwp_ret ?_
      refine kr_then ?_
      obtain rfl := e_some h14
      refine r2 [⟨.slice (some a3) 0 0, 1, ([] : List Int).map encI⟩] ?_
      exact ⟨some a3, 0, rfl, rfl⟩
    ·
      replace h14 := e_f h14 hc15
      refine kwp_skip ?_
      refine kn_then ?_
      refine kwp_seq ?_
      refine kwp_seq ?_
      refine kwp_region ?_
      refine kd (v_as) ?_
      refine kops_nil ?_
      refine kn_then ?_
      refine kwp_cutO (inv := [(0, .slice m0a m0.length m0c), (1, .slice right0a right0.length right0c), (6, .slice (some a3) 0 0), (7, .int .i64 v5)]) (fun (z : Unit) (y : Unit) => []) (fun (z : Unit) (y : Unit) => [⟨.slice (some a3) 0 0, 1, ([] : List Int).map encI⟩]) (fun _ _ => True) h14 ?_ ?_
      · intro t18 h16 g17
        refine kwp_block ?_
        refine kwp_loopE (inv := [(0, .slice m0a m0.length m0c), (1, .slice right0a right0.length right0c), (6, .slice (some a3) 0 0), (7, .int .i64 v5)]) (fun (z : Int) (y : Unit) => [(8, .int .i64 z)]) (fun (z : Int) (y : Unit) => [⟨.slice (some a3) 0 0, 1, ([] : List Int).map encI⟩]) (fun _ _ => True) h16 ⟨(), hd_mk trivial⟩ ?_
        intro k19 y23 b20 _ h21
        unfold p_spec_Solve_L0 at h21
        refine kwp_seq ?_
        refine kwp_seq ?_
        refine kwp_region ?_
        refine kd (v_mv) ?_
        refine kd (v_mv) ?_
        refine kd (v_len Tryd.runUnderlying26) ?_
        refine kd (v_cmp) ?_
        refine kops_nil ?_
        refine kn_then ?_
        refine kwp_cond rfl (fun hc24 => ?_) (fun hc24 => ?_)
        ·
          replace h21 := e_t h21 hc24
          refine kwp_skip ?_
          refine kn_then ?_
          refine kwp_seq ?_
          refine kwp_block ?_
          refine kwp_seq ?_
          refine kwp_region ?_
          refine kd (v_mv) ?_
          refine kd (v_mv) ?_
          obtain ⟨j25, ej25, nj25, h21⟩ := e_idx h21
          refine kd (v_ia ej25 nj25 Tryd.runUnderlying26 Tryd.sizeOf3) ?_
          refine kd (v_ldf nj25 Tryd.isAgg3) ?_
          obtain ⟨v27, hv26, h21⟩ := e_bind h21
          refine kk (n_call Tryd.call88 (w_spec_l1In hv26) ?_)
          rintro _ _ ⟨rfl, rfl⟩
          refine kd (v_not) ?_
          refine kops_nil ?_
          refine kn_then ?_
          refine kwp_cond rfl (fun hc29 => ?_) (fun hc29 => ?_)
          ·
            replace h21 := e_t h21 hc29
            refine kwp_seq ?_
            refine kwp_region ?_
            refine kd (v_mv) ?_
            refine kd (v_as) ?_
            refine kd (v_as) ?_
            refine kops_nil ?_
            refine kn_then ?_
            refine kwp_ret ?_
            refine kr_block ?_
            refine kr_then ?_
            refine kr_then ?_
            obtain rfl := e_some h21
            refine k_out ?_ rfl
            rintro rfl
            refine kr_block ?_
            refine kr_then ?_
            refine kr_then ?_
            obtain rfl := e_some g17
            refine r2 [⟨.slice (some a3) 0 0, 1, ([] : List Int).map encI⟩] ?_
            exact ⟨some a3, 0, rfl, rfl⟩
          ·
            replace h21 := e_f h21 hc29
            refine kwp_skip ?_
            refine kn_block ?_
            refine kn_then ?_
            refine kwp_region ?_
            refine kd (v_mv) ?_
            refine kd (v_add) ?_
            refine kd (v_as) ?_
            refine kops_nil ?_
            refine kn_then ?_
            obtain rfl := e_some h21
            exact ⟨_, (), rfl, hd_mk trivial⟩
        ·
          replace h21 := e_f h21 hc24
          refine kwp_exit ?_
          refine ke_then ?_
          obtain rfl := e_some h21
          refine k_out ?_ rfl
          rintro rfl
          refine ke_block ?_
          exact ⟨_, (), rfl, hd_mk trivial⟩
      · intro z30 y31 _ h32
        refine kn_then ?_
        refine kwp_seq ?_
        refine kwp_seq ?_
        refine kwp_region ?_
        refine kd (v_as) ?_
        refine kops_nil ?_
        refine kn_then ?_
        refine kwp_cutE (inv := [(7, .int .i64 v5)]) (fun (z : List Int) (y : Option Addr × Nat × Nat) => [(6, .slice y.1 y.2.1 y.2.2)]) (fun (z : List Int) (y : Option Addr × Nat × Nat) => [⟨.slice y.1 y.2.1 y.2.2, 1, z.map encI⟩]) (fun _ _ => True) h32 ?_ ?_
        · intro t36 h34
          refine kwp_block ?_
          refine kwp_loopE (inv := [(0, .slice m0a m0.length m0c), (1, .slice right0a right0.length right0c), (7, .int .i64 v5)]) (fun (z : List Int × Int) (y : Option Addr × Nat × Nat) => [(6, .slice y.1 y.2.1 y.2.2), (9, .int .i64 z.2)]) (fun (z : List Int × Int) (y : Option Addr × Nat × Nat) => [⟨.slice y.1 y.2.1 y.2.2, 1, z.1.map encI⟩]) (fun _ _ => True) h34 ⟨(some a3, 0, 0), hd_mk trivial⟩ ?_
          intro z41 y42 b39 _ h40
          obtain ⟨out37, k38⟩ := z41
          obtain ⟨out37a, out37n, out37c⟩ := y42
          refine k_len (c := out37c) (fun hl43 => ?_)
          subst hl43
          unfold p_spec_Solve_L1 at h40
          refine kwp_seq ?_
          refine kwp_seq ?_
          refine kwp_region ?_
          refine kd (v_mv) ?_
          refine kd (v_mv) ?_
          refine kd (v_len Tryd.runUnderlying51) ?_
          refine kd (v_cmp) ?_
          refine kops_nil ?_
          refine kn_then ?_
          refine kwp_cond rfl (fun hc44 => ?_) (fun hc44 => ?_)
          ·
            replace h40 := e_t h40 hc44
            refine kwp_skip ?_
            refine kn_then ?_
            refine kwp_seq ?_
            refine kwp_block ?_
            refine kwp_region ?_
            refine kd (v_mv) ?_
            refine kd (v_mv) ?_
            refine kd (v_mv) ?_
            refine kd (v_mv) ?_
            obtain ⟨v46, hv45, h40⟩ := e_bind h40
            refine kk (n_call Tryd.call107 (w_spec_l2Column m0a m0.length m0c m0R right0a right0.length right0c hm0R hv45) ?_)
            rintro _ _ ⟨q47a, q47c, q47R, rfl, hq47R, rfl⟩
            obtain ⟨v49, hv48, h40⟩ := e_bind h40
            refine kk (n_call Tryd.call64 (w_spec_Det q47a v46.length q47c q47R hq47R hv48) ?_)
            rintro _ _ ⟨rfl, rfl⟩
            refine kk (n_lit (enc := encI) [_] ([v49] : List Int) Tryd.runUnderlying26 Tryd.sizeOf3 Tryd.zeroValue3 (fun a51 => ?_))
            obtain ⟨hz52, h40⟩ := e_need h40
            refine kk (n_app (enc := encI) ok_encI hz52 Tryd.underlying26 Tryd.type3 (by decide) (fun a53 c54 => ?_))
            refine kd (v_as) ?_
            refine kops_nil ?_
            refine kn_block ?_
            refine kn_then ?_
            refine kwp_region ?_
            refine kd (v_mv) ?_
            refine kd (v_add) ?_
            refine kd (v_as) ?_
            refine kops_nil ?_
            refine kn_then ?_
            obtain rfl := e_some h40
            exact ⟨_, (a53, (out37 ++ ([v49] : List Int)).length, c54), rfl, hd_mk trivial⟩
          ·
            replace h40 := e_f h40 hc44
            refine kwp_exit ?_
            refine ke_then ?_
            obtain rfl := e_some h40
            refine k_out ?_ rfl
            rintro rfl
            refine ke_block ?_
            exact ⟨(out37a, out37.length, out37c), hd_mk trivial⟩
        · intro out33 y56 _ h57
          obtain ⟨out33a, out33n, out33c⟩ := y56
          refine k_len (c := out33c) (fun hl58 => ?_)
          subst hl58
          refine kwp_seq ?_
          refine kwp_region ?_
          refine kd (v_mv) ?_
          refine kd (v_mv) ?_
          refine kd (v_as) ?_
          refine kd (v_as) ?_
          refine kops_nil ?_
          refine kn_then ?_
          refine kwp_ret ?_
          obtain rfl := e_some h57
          refine r2 [⟨.slice out33a (out33.length) out33c, 1, out33.map encI⟩] ?_
          exact ⟨out33a, out33c, rfl, rfl⟩

end Go.Proofs.YtnibfmofkamjoaaDoor
