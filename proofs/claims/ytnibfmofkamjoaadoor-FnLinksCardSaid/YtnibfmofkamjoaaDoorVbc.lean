/- What the plain programs return, the functions of the program return; no condition. -/
import Derived.Test.YtnibfmofkamjoaaDoorQbc
import Derived.Test.YtnibfmofkamjoaaDoorFa
namespace Go.Proofs.YtnibfmofkamjoaaDoor
open Go
set_option linter.unusedVariables false
set_option linter.unusedSimpArgs false

set_option maxRecDepth 20000 in
theorem w_laws_sameInts (a0a : Option Addr) (a0n : Nat) (a0c : Nat) (b0a : Option Addr) (b0n : Nat) (b0c : Nat) {a0 : List Int} {b0 : List Int} {r : Bool} (h : p_laws_sameInts a0 b0 = some r) :
    Triple Tryd.prog 50 [.slice a0a a0n a0c, .slice b0a b0n b0c] [⟨.slice a0a a0n a0c, 1, a0.map encI⟩, ⟨.slice b0a b0n b0c, 1, b0.map encI⟩] [] (fun v ch => v = .bool r ∧ ch = []) := by
  refine triple_start 26 Tryd.func50 Tryd.ntmps50 rfl rfl (fun w0 => ?_)
  refine k_len (c := a0c) (fun hl1 => ?_)
  subst hl1
  refine k_len (c := b0c) (fun hl2 => ?_)
  subst hl2
  unfold p_laws_sameInts at h
  refine kwp_seq ?_
  refine kwp_region ?_
  refine kd (v_as) ?_
  refine kops_nil ?_
  refine kn_then ?_
  refine kwp_seq ?_
  refine kwp_seq ?_
  refine kwp_region ?_
  refine kd (v_mv) ?_
  refine kd (v_len Tryd.runUnderlying26) ?_
  refine kd (v_mv) ?_
  refine kd (v_len Tryd.runUnderlying26) ?_
  refine kd (v_cmp) ?_
  refine kops_nil ?_
  refine kn_then ?_
  refine kwp_cond rfl (fun hc3 => ?_) (fun hc3 => ?_)
  ·
    replace h := e_t h hc3
    refine kwp_seq ?_
    refine kwp_region ?_
    refine kd (v_as) ?_
    refine kops_nil ?_
    refine kn_then ?_
    refine kwp_ret ?_
    refine kr_then ?_
    obtain rfl := e_some h
    refine r1 [] ?_
    exact ⟨rfl, rfl⟩
  ·
    replace h := e_f h hc3
    refine kwp_skip ?_
    refine kn_then ?_
    refine kwp_seq ?_
    refine kwp_seq ?_
    refine kwp_region ?_
    refine kd (v_as) ?_
    refine kops_nil ?_
    refine kn_then ?_
    refine kwp_cutO (inv := []) (fun (z : Unit) (y : Unit) => []) (fun (z : Unit) (y : Unit) => []) (fun _ _ => True) h ?_ ?_
    · intro t6 h4 g5
      refine kwp_block ?_
      refine kwp_loopE (inv := [(0, .slice a0a a0.length a0c), (1, .slice b0a b0.length b0c)]) (fun (z : Int) (y : Unit) => [(5, .int .i64 z)]) (fun (z : Int) (y : Unit) => []) (fun _ _ => True) h4 ⟨(), hd_mk trivial⟩ ?_
      intro i7 y11 b8 _ h9
      unfold p_laws_sameInts_L0 at h9
      refine kwp_seq ?_
      refine kwp_seq ?_
      refine kwp_region ?_
      refine kd (v_mv) ?_
      refine kd (v_mv) ?_
      refine kd (v_len Tryd.runUnderlying26) ?_
      refine kd (v_cmp) ?_
      refine kops_nil ?_
      refine kn_then ?_
      refine kwp_cond rfl (fun hc12 => ?_) (fun hc12 => ?_)
      ·
        replace h9 := e_t h9 hc12
        refine kwp_skip ?_
        refine kn_then ?_
        refine kwp_seq ?_
        refine kwp_block ?_
        refine kwp_seq ?_
        obtain ⟨j13, ej13, nj13, h9⟩ := e_idx h9
        obtain ⟨j14, ej14, nj14, h9⟩ := e_idx h9
        refine kwp_tree (.quiet 0 (.quiet 1 (.quiet 2 (.quiet 3 (.quiet 4 (.quiet 5 (.quiet 6 (.quiet 7 (.quiet 8 .stop))))))))) [] [] drawMixed (by kernel_rfl) nopan (by (repeat (first | exact Sub.refl _ | exact Sub.nil _ | refine Sub.chunk (by repeat (first | exact Pick.here | apply Pick.there | apply Pick.seg)) (by rfl) ?_ | refine Sub.seg (by repeat (first | exact PickSeg.here | exact PickSeg.all | apply PickSeg.there | apply PickSeg.seg)) ?_ | exact Sub.seg0 (by repeat (first | exact PickSeg.here | exact PickSeg.all | apply PickSeg.there | apply PickSeg.seg)) | apply Sub.assoc))) ?_
        refine kt_d rfl rfl rfl (v_mv) ?_
        refine kt_d rfl rfl rfl (v_mv) ?_
        refine kt_d rfl rfl rfl (v_ia ej13 nj13 Tryd.runUnderlying26 Tryd.sizeOf3) ?_
        refine kt_d rfl rfl rfl (v_ldf nj13 Tryd.isAgg3) ?_
        refine kt_d rfl rfl rfl (v_mv) ?_
        refine kt_d rfl rfl rfl (v_mv) ?_
        refine kt_d rfl rfl rfl (v_ia ej14 nj14 Tryd.runUnderlying26 Tryd.sizeOf3) ?_
        refine kt_d rfl rfl rfl (v_ldf nj14 Tryd.isAgg3) ?_
        refine kt_d rfl rfl rfl (v_cmp) ?_
        refine kt_nil ?_
        refine kn_then ?_
        refine kwp_cond rfl (fun hc15 => ?_) (fun hc15 => ?_)
        ·
          replace h9 := e_t h9 hc15
          refine kwp_seq ?_
          refine kwp_region ?_
          refine kd (v_as) ?_
          refine kops_nil ?_
          refine kn_then ?_
          refine kwp_ret ?_
          refine kr_block ?_
          refine kr_then ?_
          refine kr_then ?_
          obtain rfl := e_some h9
          refine k_out ?_ rfl
          rintro rfl
          refine kr_block ?_
          refine kr_then ?_
          refine kr_then ?_
          obtain rfl := e_some g5
          refine r1 [] ?_
          exact ⟨rfl, rfl⟩
        ·
          replace h9 := e_f h9 hc15
          refine kwp_skip ?_
          refine kn_block ?_
          refine kn_then ?_
          refine kwp_region ?_
          refine kd (v_mv) ?_
          refine kd (v_add) ?_
          refine kd (v_as) ?_
          refine kops_nil ?_
          refine kn_then ?_
          obtain rfl := e_some h9
          exact ⟨_, (), rfl, hd_mk trivial⟩
      ·
        replace h9 := e_f h9 hc12
        refine kwp_exit ?_
        refine ke_then ?_
        obtain rfl := e_some h9
        refine k_out ?_ rfl
        rintro rfl
        refine ke_block ?_
        exact ⟨_, (), rfl, hd_mk trivial⟩
    · intro z16 y17 _ h18
      refine kn_then ?_
      refine kwp_seq ?_
      refine kwp_region ?_
      refine kd (v_as) ?_
      refine kops_nil ?_
      refine kn_then ?_
      refine kwp_ret ?_
      obtain rfl := e_some h18
      refine r1 [] ?_
      exact ⟨rfl, rfl⟩

set_option maxRecDepth 20000 in
theorem w_laws_sameLists (a0a : Option Addr) (a0n : Nat) (a0c : Nat) (a0R : List Row) (b0a : Option Addr) (b0n : Nat) (b0c : Nat) (b0R : List Row) {a0 : List (List Int)} {b0 : List (List Int)} (ha0R : nums a0R = a0) (hb0R : nums b0R = b0) {r : Bool} (h : p_laws_sameLists a0 b0 = some r) :
    Triple Tryd.prog 37 [.slice a0a a0n a0c, .slice b0a b0n b0c] (⟨.slice a0a a0n a0c, 1, a0R.map encRow⟩ :: ⟨.slice b0a b0n b0c, 1, b0R.map encRow⟩ :: (rowsC a0R ++ rowsC b0R)) [] (fun v ch => v = .bool r ∧ ch = []) := by
  refine triple_start 27 Tryd.func37 Tryd.ntmps37 rfl rfl (fun w0 => ?_)
  refine k_lenM (c := a0c) (m := a0) ha0R (fun hl1 => ?_)
  subst hl1
  refine k_lenM (c := b0c) (m := b0) hb0R (fun hl2 => ?_)
  subst hl2
  unfold p_laws_sameLists at h
  refine kwp_seq ?_
  refine kwp_region ?_
  refine kd (v_as) ?_
  refine kops_nil ?_
  refine kn_then ?_
  refine kwp_seq ?_
  refine kwp_seq ?_
  refine kwp_region ?_
  refine kd (v_mv) ?_
  refine kd (v_len Tryd.runUnderlying51) ?_
  refine kd (v_mv) ?_
  refine kd (v_len Tryd.runUnderlying51) ?_
  refine kd (v_cmp) ?_
  refine kops_nil ?_
  refine kn_then ?_
  refine kwp_cond rfl (fun hc3 => ?_) (fun hc3 => ?_)
  ·
    replace h := e_t h hc3
    refine kwp_seq ?_
    refine kwp_region ?_
    refine kd (v_as) ?_
    refine kops_nil ?_
    refine kn_then ?_
    refine kwp_ret ?_
    refine kr_then ?_
    obtain rfl := e_some h
    refine r1 [] ?_
    exact ⟨rfl, rfl⟩
  ·
    replace h := e_f h hc3
    refine kwp_skip ?_
    refine kn_then ?_
    refine kwp_seq ?_
    refine kwp_seq ?_
    refine kwp_region ?_
    refine kd (v_as) ?_
    refine kops_nil ?_
    refine kn_then ?_
    refine kwp_cutO (inv := []) (fun (z : Unit) (y : Unit) => []) (fun (z : Unit) (y : Unit) => []) (fun _ _ => True) h ?_ ?_
    · intro t6 h4 g5
      refine kwp_block ?_
      refine kwp_loopE (inv := [(0, .slice a0a a0.length a0c), (1, .slice b0a b0.length b0c)]) (fun (z : Int) (y : Unit) => [(5, .int .i64 z)]) (fun (z : Int) (y : Unit) => []) (fun _ _ => True) h4 ⟨(), hd_mk trivial⟩ ?_
      intro i7 y11 b8 _ h9
      unfold p_laws_sameLists_L0 at h9
      refine kwp_seq ?_
      refine kwp_seq ?_
      refine kwp_region ?_
      refine kd (v_mv) ?_
      refine kd (v_mv) ?_
      refine kd (v_len Tryd.runUnderlying51) ?_
      refine kd (v_cmp) ?_
      refine kops_nil ?_
      refine kn_then ?_
      refine kwp_cond rfl (fun hc12 => ?_) (fun hc12 => ?_)
      ·
        replace h9 := e_t h9 hc12
        refine kwp_skip ?_
        refine kn_then ?_
        refine kwp_seq ?_
        refine kwp_block ?_
        refine kwp_seq ?_
        obtain ⟨j13, ej13, nj13, h9⟩ := e_idx h9
        obtain ⟨j14, ej14, nj14, h9⟩ := e_idx h9
        obtain ⟨v16, hv15, h9⟩ := e_bind h9
        refine kwp_tree (.quiet 0 (.quiet 1 (.quiet 2 (.quiet 3 (.quiet 4 (.quiet 5 (.quiet 6 (.quiet 7 (.one 8 (.quiet 9 .stop)))))))))) [] [] drawMixed (by kernel_rfl) nopan (by (repeat (first | exact Sub.refl _ | exact Sub.nil _ | refine Sub.chunk (by repeat (first | exact Pick.here | apply Pick.there | apply Pick.seg)) (by rfl) ?_ | refine Sub.seg (by repeat (first | exact PickSeg.here | exact PickSeg.all | apply PickSeg.there | apply PickSeg.seg)) ?_ | exact Sub.seg0 (by repeat (first | exact PickSeg.here | exact PickSeg.all | apply PickSeg.there | apply PickSeg.seg)) | apply Sub.assoc))) ?_
        refine kt_d rfl rfl rfl (v_mv) ?_
        refine kt_d rfl rfl rfl (v_mv) ?_
        refine kt_d rfl rfl rfl (v_ia ej13 nj13 Tryd.runUnderlying51 Tryd.sizeOf26) ?_
        refine kt_d rfl rfl rfl (v_ldr nj13 ha0R Tryd.isAgg26) ?_
        refine kt_d rfl rfl rfl (v_mv) ?_
        refine kt_d rfl rfl rfl (v_mv) ?_
        refine kt_d rfl rfl rfl (v_ia ej14 nj14 Tryd.runUnderlying51 Tryd.sizeOf26) ?_
        refine kt_d rfl rfl rfl (v_ldr nj14 hb0R Tryd.isAgg26) ?_
        refine kt_one ?_
        refine kl_k rfl rfl (n_call Tryd.call50 (w_laws_sameInts ((gx a0R j13).a) ((gx a0 j13).length) ((gx a0R j13).c) ((gx b0R j14).a) ((gx b0 j14).length) ((gx b0R j14).c) hv15) ?_ (hv := (Views.cons (by repeat (first | exact mr ha0R (by first | exact nj13 | (simpa using nj13) | omega | (simp only [List.length_set]; omega)) | exact mr0 ha0R (by first | exact nj13 | (simpa using nj13) | omega | (simp only [List.length_set]; omega)) | apply mt | apply mas | apply ms)) (View.refl _) (Views.cons (by repeat (first | exact mr hb0R (by first | exact nj14 | (simpa using nj14) | omega | (simp only [List.length_set]; omega)) | exact mr0 hb0R (by first | exact nj14 | (simpa using nj14) | omega | (simp only [List.length_set]; omega)) | apply mt | apply mas | apply ms)) (View.refl _) (Views.nil _)))))
        rintro _ _ ⟨rfl, rfl⟩
        refine ⟨.inl (by (repeat (first | exact Sub.refl _ | exact Sub.nil _ | refine Sub.chunk (by repeat (first | exact Pick.here | apply Pick.there | apply Pick.seg)) (by rfl) ?_ | refine Sub.seg (by repeat (first | exact PickSeg.here | exact PickSeg.all | apply PickSeg.there | apply PickSeg.seg)) ?_ | exact Sub.seg0 (by repeat (first | exact PickSeg.here | exact PickSeg.all | apply PickSeg.there | apply PickSeg.seg)) | apply Sub.assoc))), ?_⟩
        refine kt_d rfl rfl rfl (v_not) ?_
        refine kt_nil ?_
        refine kn_then ?_
        refine kwp_cond rfl (fun hc18 => ?_) (fun hc18 => ?_)
        ·
          replace h9 := e_t h9 hc18
          refine kwp_seq ?_
          refine kwp_region ?_
          refine kd (v_as) ?_
          refine kops_nil ?_
          refine kn_then ?_
          refine kwp_ret ?_
          refine kr_block ?_
          refine kr_then ?_
          refine kr_then ?_
          obtain rfl := e_some h9
          refine k_out ?_ rfl
          rintro rfl
          refine kr_block ?_
          refine kr_then ?_
          refine kr_then ?_
          obtain rfl := e_some g5
          refine r1 [] ?_
          exact ⟨rfl, rfl⟩
        ·
          replace h9 := e_f h9 hc18
          refine kwp_skip ?_
          refine kn_block ?_
          refine kn_then ?_
          refine kwp_region ?_
          refine kd (v_mv) ?_
          refine kd (v_add) ?_
          refine kd (v_as) ?_
          refine kops_nil ?_
          refine kn_then ?_
          obtain rfl := e_some h9
          exact ⟨_, (), rfl, hd_mk trivial⟩
      ·
        replace h9 := e_f h9 hc12
        refine kwp_exit ?_
        refine ke_then ?_
        obtain rfl := e_some h9
        refine k_out ?_ rfl
        rintro rfl
        refine ke_block ?_
        exact ⟨_, (), rfl, hd_mk trivial⟩
    · intro z19 y20 _ h21
      refine kn_then ?_
      refine kwp_seq ?_
      refine kwp_region ?_
      refine kd (v_as) ?_
      refine kops_nil ?_
      refine kn_then ?_
      refine kwp_ret ?_
      obtain rfl := e_some h21
      refine r1 [] ?_
      exact ⟨rfl, rfl⟩

set_option maxRecDepth 20000 in
theorem w_laws_sameFix (a01a : Option Addr) (a01n : Nat) (a01c : Nat) (b01a : Option Addr) (b01n : Nat) (b01c : Nat) {a0 : Fix} {b0 : Fix} {r : Bool} (h : p_laws_sameFix a0 b0 = some r) :
    Triple Tryd.prog 18 [.agg #[.int .i64 a0.den, .slice a01a a01n a01c], .agg #[.int .i64 b0.den, .slice b01a b01n b01c]] [⟨.slice a01a a01n a01c, 3, a0.nums.map encWay⟩, ⟨.slice b01a b01n b01c, 3, b0.nums.map encWay⟩] [] (fun v ch => v = .bool r ∧ ch = []) := by
  refine triple_start 38 Tryd.func18 Tryd.ntmps18 rfl rfl (fun w0 => ?_)
  refine k_len (c := a01c) (fun hl1 => ?_)
  subst hl1
  refine k_len (c := b01c) (fun hl2 => ?_)
  subst hl2
  unfold p_laws_sameFix at h
  refine kwp_seq ?_
  refine kwp_region ?_
  refine kk (n_box (e := [.int .i64 a0.den, .slice a01a a0.nums.length a01c]) 2 (fun p2_3 => ?_))
  refine kk (n_box (e := [.int .i64 b0.den, .slice b01a b0.nums.length b01c]) 2 (fun p3_4 => ?_))
  refine kd (v_as) ?_
  refine kops_nil ?_
  refine kn_then ?_
  refine kwp_seq ?_
  refine kwp_seq ?_
  refine kwp_cutE (inv := [(2, .pointer (some p2_3)), (3, .pointer (some p3_4))]) (fun (z : Bool) (y : Unit) => [(19, .bool z)]) (fun (z : Bool) (y : Unit) => [⟨.pointer (some p2_3), 2, [[.int .i64 a0.den, .slice a01a a0.nums.length a01c]]⟩, ⟨.pointer (some p3_4), 2, [[.int .i64 b0.den, .slice b01a b0.nums.length b01c]]⟩]) (fun _ _ => True) h ?_ ?_
  · intro t8 h6
    refine kwp_region ?_
    refine kd (v_fb fa_31_0) ?_
    refine kd (v_ldb Tryd.isAgg3) ?_
    refine kd (v_fb fa_31_0) ?_
    refine kd (v_ldb Tryd.isAgg3) ?_
    refine kd (v_cmp) ?_
    refine kd (v_mv) ?_
    refine kops_split 11 rfl (fun hb9 => ?_) (fun hb9 => ?_)
    ·
      replace h6 := e_t h6 hb9
      refine kskip hb9 ?_
      refine kskip hb9 ?_
      refine kskip hb9 ?_
      refine kskip hb9 ?_
      refine kskip hb9 ?_
      refine kskip hb9 ?_
      refine kskip hb9 ?_
      refine kd (v_pt hb9) ?_
      refine kops_nil ?_
      refine kn_then ?_
      obtain rfl := e_some h6
      exact ⟨(), hd_mk trivial⟩
    ·
      replace h6 := e_f h6 hb9
      refine kgd hb9 (v_fb fa_31_1) ?_
      refine kgd hb9 (v_ldb Tryd.isAgg29) ?_
      refine kgd hb9 (v_len Tryd.runUnderlying29) ?_
      refine kgd hb9 (v_fb fa_31_1) ?_
      refine kgd hb9 (v_ldb Tryd.isAgg29) ?_
      refine kgd hb9 (v_len Tryd.runUnderlying29) ?_
      refine kgd hb9 (v_cmp) ?_
      refine kd (v_pf hb9) ?_
      refine kops_nil ?_
      refine kn_then ?_
      obtain rfl := e_some h6
      exact ⟨(), hd_mk trivial⟩
  · intro x5 y11 _ h12
    refine kn_then ?_
    refine kwp_cond rfl (fun hc13 => ?_) (fun hc13 => ?_)
    ·
      replace h12 := e_t h12 hc13
      refine kwp_seq ?_
      refine kwp_region ?_
      refine kd (v_as) ?_
      refine kops_nil ?_
      refine kn_then ?_
      refine kwp_ret ?_
      refine kr_then ?_
      obtain rfl := e_some h12
      refine r1 [] ?_
      exact ⟨rfl, rfl⟩
    ·
      replace h12 := e_f h12 hc13
      refine kwp_skip ?_
      refine kn_then ?_
      refine kwp_seq ?_
      refine kwp_seq ?_
      refine kwp_region ?_
      refine kd (v_as) ?_
      refine kops_nil ?_
      refine kn_then ?_
      refine kwp_cutO (inv := []) (fun (z : Unit) (y : Unit) => []) (fun (z : Unit) (y : Unit) => []) (fun _ _ => True) h12 ?_ ?_
      · intro t16 h14 g15
        refine kwp_block ?_
        refine kwp_loopE (inv := [(2, .pointer (some p2_3)), (3, .pointer (some p3_4))]) (fun (z : Int) (y : Unit) => [(5, .int .i64 z)]) (fun (z : Int) (y : Unit) => [⟨.pointer (some p2_3), 2, [[.int .i64 a0.den, .slice a01a a0.nums.length a01c]]⟩, ⟨.pointer (some p3_4), 2, [[.int .i64 b0.den, .slice b01a b0.nums.length b01c]]⟩]) (fun _ _ => True) h14 ⟨(), hd_mk trivial⟩ ?_
        intro i17 y21 b18 _ h19
        unfold p_laws_sameFix_L0 at h19
        refine kwp_seq ?_
        refine kwp_seq ?_
        refine kwp_region ?_
        refine kd (v_mv) ?_
        refine kd (v_fb fa_31_1) ?_
        refine kd (v_ldb Tryd.isAgg29) ?_
        refine kd (v_len Tryd.runUnderlying29) ?_
        refine kd (v_cmp) ?_
        refine kops_nil ?_
        refine kn_then ?_
        refine kwp_cond rfl (fun hc22 => ?_) (fun hc22 => ?_)
        ·
          replace h19 := e_t h19 hc22
          refine kwp_skip ?_
          refine kn_then ?_
          refine kwp_seq ?_
          refine kwp_block ?_
          refine kwp_seq ?_
          obtain ⟨j23, ej23, nj23, h19⟩ := e_idx h19
          obtain ⟨j24, ej24, nj24, h19⟩ := e_idx h19
          refine kwp_tree (.quiet 0 (.quiet 1 (.quiet 2 (.quiet 3 (.quiet 4 (.quiet 5 (.quiet 6 (.quiet 7 (.quiet 8 (.quiet 9 (.quiet 10 .stop))))))))))) [] [⟨.pointer (some p2_3), 2, [[.int .i64 a0.den, .slice a01a a0.nums.length a01c]]⟩, ⟨.pointer (some p3_4), 2, [[.int .i64 b0.den, .slice b01a b0.nums.length b01c]]⟩] drawMixed (by kernel_rfl) nopan (by (repeat (first | exact Sub.refl _ | exact Sub.nil _ | refine Sub.chunk (by repeat (first | exact Pick.here | apply Pick.there | apply Pick.seg)) (by rfl) ?_ | refine Sub.seg (by repeat (first | exact PickSeg.here | exact PickSeg.all | apply PickSeg.there | apply PickSeg.seg)) ?_ | exact Sub.seg0 (by repeat (first | exact PickSeg.here | exact PickSeg.all | apply PickSeg.there | apply PickSeg.seg)) | apply Sub.assoc))) ?_
          refine kt_d rfl rfl rfl (v_fb fa_31_1) ?_
          refine kt_d rfl rfl rfl (v_ldb Tryd.isAgg29) ?_
          refine kt_d rfl rfl rfl (v_mv) ?_
          refine kt_d rfl rfl rfl (v_ia ej23 nj23 Tryd.runUnderlying29 Tryd.sizeOf37) ?_
          refine kt_d rfl rfl rfl (v_lda (e := [_, _, _]) nj23 Tryd.isAgg37 Tryd.sizeOf37) ?_
          refine kt_d rfl rfl rfl (v_fb fa_31_1) ?_
          refine kt_d rfl rfl rfl (v_ldb Tryd.isAgg29) ?_
          refine kt_d rfl rfl rfl (v_mv) ?_
          refine kt_d rfl rfl rfl (v_ia ej24 nj24 Tryd.runUnderlying29 Tryd.sizeOf37) ?_
          refine kt_d rfl rfl rfl (v_lda (e := [_, _, _]) nj24 Tryd.isAgg37 Tryd.sizeOf37) ?_
          refine kt_d rfl rfl rfl (v_nea eg_37 he_37 hp_37 (eqf_37 _ _ _ _ _ _)) ?_
          refine kt_nil ?_
          refine kn_then ?_
          refine kwp_cond rfl (fun hc25 => ?_) (fun hc25 => ?_)
          ·
            replace h19 := e_t h19 hc25
            refine kwp_seq ?_
            refine kwp_region ?_
            refine kd (v_as) ?_
            refine kops_nil ?_
            refine kn_then ?_
            refine kwp_ret ?_
            refine kr_block ?_
            refine kr_then ?_
            refine kr_then ?_
            obtain rfl := e_some h19
            refine k_out ?_ rfl
            rintro rfl
            refine kr_block ?_
            refine kr_then ?_
            refine kr_then ?_
            obtain rfl := e_some g15
            refine r1 [] ?_
            exact ⟨rfl, rfl⟩
          ·
            replace h19 := e_f h19 hc25
            refine kwp_skip ?_
            refine kn_block ?_
            refine kn_then ?_
            refine kwp_region ?_
            refine kd (v_mv) ?_
            refine kd (v_add) ?_
            refine kd (v_as) ?_
            refine kops_nil ?_
            refine kn_then ?_
            obtain rfl := e_some h19
            exact ⟨_, (), rfl, hd_mk trivial⟩
        ·
          replace h19 := e_f h19 hc22
          refine kwp_exit ?_
          refine ke_then ?_
          obtain rfl := e_some h19
          refine k_out ?_ rfl
          rintro rfl
          refine ke_block ?_
          exact ⟨_, (), rfl, hd_mk trivial⟩
      · intro z26 y27 _ h28
        refine kn_then ?_
        refine kwp_seq ?_
        refine kwp_region ?_
        refine kd (v_as) ?_
        refine kops_nil ?_
        refine kn_then ?_
        refine kwp_ret ?_
        obtain rfl := e_some h28
        refine r1 [] ?_
        exact ⟨rfl, rfl⟩

set_option maxRecDepth 20000 in
theorem w_laws_copyRows (m0a : Option Addr) (m0n : Nat) (m0c : Nat) (m0R : List Row) {m0 : List (List Int)} (hm0R : nums m0R = m0) {r : List (List Int)} (h : p_laws_copyRows m0 = some r) :
    Triple Tryd.prog 66 [.slice m0a m0n m0c] (⟨.slice m0a m0n m0c, 1, m0R.map encRow⟩ :: (rowsC m0R)) [] (fun v ch => ∃ (w0a : Option Addr) (w0c : Nat) (w0R : List Row), v = .slice w0a r.length w0c ∧ nums w0R = r ∧ ch = (⟨.slice w0a r.length w0c, 1, w0R.map encRow⟩ :: (rowsC w0R))) := by
  refine triple_start 22 Tryd.func66 Tryd.ntmps66 rfl rfl (fun w0 => ?_)
  refine k_lenM (c := m0c) (m := m0) hm0R (fun hl1 => ?_)
  subst hl1
  unfold p_laws_copyRows at h
  refine kwp_seq ?_
  refine kwp_region ?_
  refine kops_nilM (fun R2 hR2 => ?_)
  refine kd (v_as) ?_
  refine kops_nil ?_
  refine kn_then ?_
  refine kwp_seq ?_
  refine kwp_region ?_
  refine kk (n_litM Tryd.runUnderlying51 Tryd.sizeOf26 Tryd.zeroValue26 (fun a3 R4 hR4 => ?_))
  refine kd (v_as) ?_
  refine kops_nil ?_
  refine kn_then ?_
  refine kwp_seq ?_
  refine kwp_seq ?_
  refine kwp_region ?_
  refine kd (v_as) ?_
  refine kops_nil ?_
  refine kn_then ?_
  refine kwp_cutE (inv := []) (fun (z : List (List Int)) (y : Option Addr × Nat × Nat × List Row) => [(3, .slice y.1 y.2.1 y.2.2.1)]) (fun (z : List (List Int)) (y : Option Addr × Nat × Nat × List Row) => (⟨.slice y.1 y.2.1 y.2.2.1, 1, y.2.2.2.map encRow⟩ :: (rowsC y.2.2.2))) (fun (z : List (List Int)) (y : Option Addr × Nat × Nat × List Row) => nums y.2.2.2 = z ∧ True) h ?_ ?_
  · intro t8 h6
    refine kwp_block ?_
    refine kwp_loopE (inv := [(0, .slice m0a m0.length m0c)]) (fun (z : List (List Int) × Int) (y : Option Addr × Nat × Nat × List Row) => [(3, .slice y.1 y.2.1 y.2.2.1), (4, .int .i64 z.2)]) (fun (z : List (List Int) × Int) (y : Option Addr × Nat × Nat × List Row) => (⟨.slice y.1 y.2.1 y.2.2.1, 1, y.2.2.2.map encRow⟩ :: (rowsC y.2.2.2))) (fun (z : List (List Int) × Int) (y : Option Addr × Nat × Nat × List Row) => nums y.2.2.2 = z.1 ∧ True) h6 ⟨(some a3, 0, 0, R4), hd_mk ⟨hR4, trivial⟩⟩ ?_
    intro z13 y14 b11 hp15 h12
    obtain ⟨out9, i10⟩ := z13
    obtain ⟨out9a, out9n, out9c, out9R⟩ := y14
    obtain ⟨hout9R, _⟩ := hp15
    refine k_lenM (c := out9c) (m := out9) hout9R (fun hl16 => ?_)
    subst hl16
    unfold p_laws_copyRows_L0 at h12
    refine kwp_seq ?_
    refine kwp_seq ?_
    refine kwp_region ?_
    refine kd (v_mv) ?_
    refine kd (v_mv) ?_
    refine kd (v_len Tryd.runUnderlying51) ?_
    refine kd (v_cmp) ?_
    refine kops_nil ?_
    refine kn_then ?_
    refine kwp_cond rfl (fun hc17 => ?_) (fun hc17 => ?_)
    ·
      replace h12 := e_t h12 hc17
      refine kwp_skip ?_
      refine kn_then ?_
      refine kwp_seq ?_
      refine kwp_block ?_
      refine kwp_region ?_
      refine kd (v_mv) ?_
      refine kk (n_lit (enc := encI) [] ([] : List Int) Tryd.runUnderlying26 Tryd.sizeOf3 Tryd.zeroValue3 (fun a18 => ?_))
      refine kd (v_mv) ?_
      refine kd (v_mv) ?_
      obtain ⟨j19, ej19, nj19, h12⟩ := e_idx h12
      refine kd (v_ia ej19 nj19 Tryd.runUnderlying51 Tryd.sizeOf26) ?_
      refine kd (v_ldr nj19 hm0R Tryd.isAgg26) ?_
      obtain ⟨hz20, h12⟩ := e_need h12
      refine kk (n_app (enc := encI) ok_encI hz20 Tryd.underlying26 Tryd.type3 (by decide) (fun a21 c22 => ?_) (hm := by repeat (first | exact mr hm0R (by first | exact nj19 | (simpa using nj19) | omega | (simp only [List.length_set]; omega)) | exact mr0 hm0R (by first | exact nj19 | (simpa using nj19) | omega | (simp only [List.length_set]; omega)) | apply mt | apply mas | apply ms)))
      refine kk (n_lit (enc := fun v => v) [_] [[.slice a21 ((([] : List Int) ++ (gx m0 j19)).length) c22]] Tryd.runUnderlying51 Tryd.sizeOf26 Tryd.zeroValue26 (fun a23 => ?_))
      obtain ⟨hz24, h12⟩ := e_need h12
      refine kk (n_appM (l := (([] : List Int) ++ (gx m0 j19))) hout9R hz24 Tryd.underlying51 Tryd.type26 (by decide) (fun a25 c26 R27 hR27 => ?_))
      refine kd (v_as) ?_
      refine kops_nil ?_
      refine kn_block ?_
      refine kn_then ?_
      refine kwp_region ?_
      refine kd (v_mv) ?_
      refine kd (v_add) ?_
      refine kd (v_as) ?_
      refine kops_nil ?_
      refine kn_then ?_
      obtain rfl := e_some h12
      exact ⟨_, (a25, (out9 ++ [([] : List Int) ++ (gx m0 j19)]).length, c26, R27), rfl, hd_mk ⟨hR27, trivial⟩⟩
    ·
      replace h12 := e_f h12 hc17
      refine kwp_exit ?_
      refine ke_then ?_
      obtain rfl := e_some h12
      refine k_out ?_ rfl
      rintro rfl
      refine ke_block ?_
      exact ⟨(out9a, out9.length, out9c, out9R), hd_mk ⟨hout9R, trivial⟩⟩
  · intro out5 y29 hp31 h30
    obtain ⟨out5a, out5n, out5c, out5R⟩ := y29
    obtain ⟨hout5R, _⟩ := hp31
    refine k_lenM (c := out5c) (m := out5) hout5R (fun hl32 => ?_)
    subst hl32
    refine kwp_seq ?_
    refine kwp_region ?_
    refine kd (v_mv) ?_
    refine kd (v_as) ?_
    refine kops_nil ?_
    refine kn_then ?_
    refine kwp_ret ?_
    obtain rfl := e_some h30
    refine r1 (⟨.slice out5a (out5.length) out5c, 1, out5R.map encRow⟩ :: (rowsC out5R)) ?_
    exact ⟨out5a, out5c, out5R, rfl, hout5R, rfl⟩

end Go.Proofs.YtnibfmofkamjoaaDoor
