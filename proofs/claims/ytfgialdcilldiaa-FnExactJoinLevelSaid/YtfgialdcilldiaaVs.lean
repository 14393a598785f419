/- What the plain programs return, the functions of the program return; no condition. -/
import Derived.Test.YtfgialdcilldiaaQs
import Derived.Test.YtfgialdcilldiaaFa
namespace Go.Proofs.Ytfgialdcilldiaa
open Go
set_option linter.unusedVariables false
set_option linter.unusedSimpArgs false

set_option maxRecDepth 20000 in
theorem w_laws_szSillS (a0a : Option Addr) (a0n : Nat) (a0c : Nat) {a0 : List Sill} {left0 : Int} {r : Int} (h : p_laws_szSillS a0 left0 = some r) :
    Triple Try.prog 63 [.slice a0a a0n a0c, .int .i64 left0] [⟨.slice a0a a0n a0c, 3, a0.map encSill⟩] [] (fun v ch => v = .int .i64 r ∧ ch = []) := by
  refine triple_start 12 Try.func63 Try.ntmps63 rfl rfl (fun w0 => ?_)
  refine k_len (c := a0c) (fun hl1 => ?_)
  subst hl1
  unfold p_laws_szSillS at h
  refine kwp_seq ?_
  refine kwp_region ?_
  refine kd (v_as) ?_
  refine kops_nil ?_
  refine kn_then ?_
  refine kwp_seq ?_
  refine kwp_region ?_
  refine kd (v_mv) ?_
  refine kd (v_mv) ?_
  refine kd (v_len Try.runUnderlying40) ?_
  refine kd (v_sub) ?_
  refine kd (v_as) ?_
  refine kops_nil ?_
  refine kn_then ?_
  refine kwp_seq ?_
  refine kwp_seq ?_
  refine kwp_region ?_
  refine kd (v_mv) ?_
  refine kd (v_cmp) ?_
  refine kops_nil ?_
  refine kn_then ?_
  refine kwp_cond rfl (fun hc2 => ?_) (fun hc2 => ?_)
  ·
    replace h := e_t h hc2
    refine kwp_seq ?_
    refine kwp_region ?_
    refine kd (v_as) ?_
    refine kops_nil ?_
    refine kn_then ?_
    refine kwp_ret ?_
    refine kr_then ?_
    obtain rfl := e_some h
    refine r1 [] ?_
    exact ⟨rfl, rfl⟩
  ·
    replace h := e_f h hc2
    refine kwp_skip ?_
    refine kn_then ?_
    refine kwp_seq ?_
    refine kwp_region ?_
    refine kd (v_mv) ?_
    refine kd (v_as) ?_
    refine kops_nil ?_
    refine kn_then ?_
    refine kwp_ret ?_
    obtain rfl := e_some h
    refine r1 [] ?_
    exact ⟨rfl, rfl⟩

set_option maxRecDepth 20000 in
theorem w_laws_toSill  {a0 : Sill} {r : Sill} (h : p_laws_toSill a0 = some r) :
    Triple Try.prog 83 [.agg #[.int .i64 a0.a, .int .i64 a0.b, .int .i64 a0.high]] [] [] (fun v ch => v = .agg #[.int .i64 r.a, .int .i64 r.b, .int .i64 r.high] ∧ ch = []) := by
  refine triple_start 14 Try.func83 Try.ntmps83 rfl rfl (fun w0 => ?_)
  unfold p_laws_toSill at h
  refine kwp_seq ?_
  refine kwp_region ?_
  refine kk (n_box (e := [.int .i64 a0.a, .int .i64 a0.b, .int .i64 a0.high]) 3 (fun p1_1 => ?_))
  refine kk (n_alloc (e := [.int .i64 0, .int .i64 0, .int .i64 0]) 3 Try.zeroValue83 (fun p2_2 => ?_))
  refine kops_nil ?_
  refine kn_then ?_
  refine kwp_seq ?_
  refine kwp_region ?_
  refine kk (n_alloc (e := [.int .i64 0, .int .i64 0, .int .i64 0]) 3 Try.zeroValue83 (fun p3_3 => ?_))
  refine kops_nil ?_
  refine kn_then ?_
  refine kwp_seq ?_
  refine kwp_region ?_
  refine kd (v_fb fa_106_0) ?_
  refine kd (v_ldb Try.isAgg3) ?_
  refine kd (v_fb fa_83_0) ?_
  refine kk (s_b (e' := [.int .i64 a0.a, .int .i64 0, .int .i64 0]) Try.sizeOf3 ?_)
  refine kops_nil ?_
  refine kn_then ?_
  refine kwp_seq ?_
  refine kwp_region ?_
  refine kd (v_fb fa_106_1) ?_
  refine kd (v_ldb Try.isAgg3) ?_
  refine kd (v_fb fa_83_1) ?_
  refine kk (s_b (e' := [.int .i64 a0.a, .int .i64 a0.b, .int .i64 0]) Try.sizeOf3 ?_)
  refine kops_nil ?_
  refine kn_then ?_
  refine kwp_seq ?_
  refine kwp_region ?_
  refine kd (v_fb fa_106_2) ?_
  refine kd (v_ldb Try.isAgg3) ?_
  refine kd (v_fb fa_83_2) ?_
  refine kk (s_b (e' := [.int .i64 a0.a, .int .i64 a0.b, .int .i64 a0.high]) Try.sizeOf3 ?_)
  refine kops_nil ?_
  refine kn_then ?_
  refine kwp_seq ?_
  refine kwp_region ?_
  refine kd (v_ldB Try.isAgg83 Try.sizeOf83) ?_
  refine kk (s_B (e' := [.int .i64 a0.a, .int .i64 a0.b, .int .i64 a0.high]) Try.sizeOf83 ?_)
  refine kops_nil ?_
  refine kn_then ?_
  refine kwp_ret ?_
  obtain rfl := e_some h
  refine rc Try.isAgg83 Try.sizeOf83 [] ?_
  exact ⟨rfl, rfl⟩

set_option maxRecDepth 20000 in
theorem w_laws_toSillS (a0a : Option Addr) (a0n : Nat) (a0c : Nat) {a0 : List Sill} {r : List Sill} (h : p_laws_toSillS a0 = some r) :
    Triple Try.prog 64 [.slice a0a a0n a0c] [⟨.slice a0a a0n a0c, 3, a0.map encSill⟩] [] (fun v ch => ∃ (w0a : Option Addr) (w0c : Nat), v = .slice w0a r.length w0c ∧ ch = [⟨.slice w0a r.length w0c, 3, r.map encSill⟩]) := by
  refine triple_start 23 Try.func64 Try.ntmps64 rfl rfl (fun w0 => ?_)
  refine k_len (c := a0c) (fun hl1 => ?_)
  subst hl1
  unfold p_laws_toSillS at h
  refine kwp_seq ?_
  refine kwp_region ?_
  refine kops_nilchunk 3 (by decide) ?_
  refine kd (v_as) ?_
  refine kops_nil ?_
  refine kn_then ?_
  refine kwp_seq ?_
  refine kwp_region ?_
  refine kd (v_mv) ?_
  refine kd (v_len Try.runUnderlying40) ?_
  obtain ⟨j2, ej2, nj2, h⟩ := e_sized h
  refine kk (n_make (enc := encSill) (⟨0, 0, 0⟩ : Sill) ej2 nj2 Try.underlying45 Try.type83 (by decide) (fun a3 => ?_))
  refine kd (v_as) ?_
  refine kops_nil ?_
  refine kn_then ?_
  refine kwp_seq ?_
  refine kwp_seq ?_
  refine kwp_region ?_
  refine kd (v_as) ?_
  refine kops_nil ?_
  refine kn_then ?_
  refine kwp_cutE (inv := [(3, .slice (some a3) j2 j2)]) (fun (z : List Sill) (y : Unit) => []) (fun (z : List Sill) (y : Unit) => [⟨.slice (some a3) j2 j2, 3, z.map encSill⟩]) (fun _ _ => True) h ?_ ?_
  · intro t7 h5
    refine kwp_block ?_
    refine kwp_loopE (inv := [(0, .slice a0a a0.length a0c), (3, .slice (some a3) j2 j2)]) (fun (z : Int × List Sill) (y : Unit) => [(4, .int .i64 z.1)]) (fun (z : Int × List Sill) (y : Unit) => [⟨.slice (some a3) j2 j2, 3, z.2.map encSill⟩]) (fun _ _ => True) h5 ⟨(), hd_mk trivial⟩ ?_
    intro z12 y13 b10 _ h11
    obtain ⟨i8, l9⟩ := z12
    unfold p_laws_toSillS_L0 at h11
    refine kwp_seq ?_
    refine kwp_seq ?_
    refine kwp_region ?_
    refine kd (v_mv) ?_
    refine kd (v_mv) ?_
    refine kd (v_len Try.runUnderlying40) ?_
    refine kd (v_cmp) ?_
    refine kops_nil ?_
    refine kn_then ?_
    refine kwp_cond rfl (fun hc14 => ?_) (fun hc14 => ?_)
    ·
      replace h11 := e_t h11 hc14
      refine kwp_skip ?_
      refine kn_then ?_
      refine kwp_seq ?_
      refine kwp_block ?_
      refine kwp_region ?_
      refine kd (v_mv) ?_
      refine kd (v_mv) ?_
      refine kd (v_mv) ?_
      refine kd (v_mv) ?_
      obtain ⟨j15, ej15, nj15, h11⟩ := e_idx h11
      refine kd (v_ia ej15 nj15 Try.runUnderlying40 Try.sizeOf106) ?_
      refine kd (v_lda (e := [_, _, _]) nj15 Try.isAgg106 Try.sizeOf106) ?_
      obtain ⟨v17, hv16, h11⟩ := e_bind h11
      refine kk (n_call Try.call83 (w_laws_toSill hv16) ?_)
      rintro _ _ ⟨rfl, rfl⟩
      obtain ⟨j19, ej19, nj19, h11⟩ := e_idx h11
      refine kd (v_ia ej19 nj19 Try.runUnderlying45 Try.sizeOf83) ?_
      refine kk (s_a v17 nj19 Try.sizeOf83 ?_ (ok_encSill _))
      refine kops_nil ?_
      refine kn_block ?_
      refine kn_then ?_
      refine kwp_region ?_
      refine kd (v_mv) ?_
      refine kd (v_add) ?_
      refine kd (v_as) ?_
      refine kops_nil ?_
      refine kn_then ?_
      obtain rfl := e_some h11
      exact ⟨_, (), rfl, hd_mk trivial⟩
    ·
      replace h11 := e_f h11 hc14
      refine kwp_exit ?_
      refine ke_then ?_
      obtain rfl := e_some h11
      refine k_out ?_ rfl
      rintro rfl
      refine ke_block ?_
      exact ⟨(), hd_mk trivial⟩
  · intro l4 y21 _ h22
    refine kn_then ?_
    refine kwp_seq ?_
    refine kwp_region ?_
    refine kd (v_mv) ?_
    refine kd (v_as) ?_
    refine kops_nil ?_
    refine kn_then ?_
    refine k_len (c := j2) (fun hl23 => ?_)
    subst hl23
    refine kwp_ret ?_
    obtain rfl := e_some h22
    refine r1 [⟨.slice (some a3) (l4.length) (l4.length), 3, l4.map encSill⟩] ?_
    exact ⟨some a3, (l4.length), rfl, rfl⟩

set_option maxRecDepth 20000 in
theorem w_laws_eqSill  {a0 : Sill} {b0 : Sill} {r : Bool} (h : p_laws_eqSill a0 b0 = some r) :
    Triple Try.prog 84 [.agg #[.int .i64 a0.a, .int .i64 a0.b, .int .i64 a0.high], .agg #[.int .i64 b0.a, .int .i64 b0.b, .int .i64 b0.high]] [] [] (fun v ch => v = .bool r ∧ ch = []) := by
  refine triple_start 20 Try.func84 Try.ntmps84 rfl rfl (fun w0 => ?_)
  unfold p_laws_eqSill at h
  refine kwp_seq ?_
  refine kwp_region ?_
  refine kk (n_box (e := [.int .i64 a0.a, .int .i64 a0.b, .int .i64 a0.high]) 3 (fun p2_1 => ?_))
  refine kk (n_box (e := [.int .i64 b0.a, .int .i64 b0.b, .int .i64 b0.high]) 3 (fun p3_2 => ?_))
  refine kd (v_as) ?_
  refine kops_nil ?_
  refine kn_then ?_
  refine kwp_seq ?_
  refine kwp_seq ?_
  refine kwp_region ?_
  refine kd (v_fb fa_83_0) ?_
  refine kd (v_ldb Try.isAgg3) ?_
  refine kd (v_fb fa_83_0) ?_
  refine kd (v_ldb Try.isAgg3) ?_
  refine kd (v_cmp) ?_
  refine kops_nil ?_
  refine kn_then ?_
  refine kwp_cond rfl (fun hc3 => ?_) (fun hc3 => ?_)
  ·
    replace h := e_t h hc3
    refine kwp_seq ?_
    refine kwp_region ?_
    refine kd (v_as) ?_
    refine kops_nil ?_
    refine kn_then ?_
    refine kwp_ret ?_
    refine kr_then ?_
    obtain rfl := e_some h
    refine r1 [] ?_
    exact ⟨rfl, rfl⟩
  ·
    replace h := e_f h hc3
    refine kwp_skip ?_
    refine kn_then ?_
    refine kwp_seq ?_
    refine kwp_seq ?_
    refine kwp_region ?_
    refine kd (v_fb fa_83_1) ?_
    refine kd (v_ldb Try.isAgg3) ?_
    refine kd (v_fb fa_83_1) ?_
    refine kd (v_ldb Try.isAgg3) ?_
    refine kd (v_cmp) ?_
    refine kops_nil ?_
    refine kn_then ?_
    refine kwp_cond rfl (fun hc4 => ?_) (fun hc4 => ?_)
    ·
      replace h := e_t h hc4
      refine kwp_seq ?_
      refine kwp_region ?_
      refine kd (v_as) ?_
      refine kops_nil ?_
      refine kn_then ?_
      refine kwp_ret ?_
      refine kr_then ?_
      obtain rfl := e_some h
      refine r1 [] ?_
      exact ⟨rfl, rfl⟩
    ·
      replace h := e_f h hc4
      refine kwp_skip ?_
      refine kn_then ?_
      refine kwp_seq ?_
      refine kwp_seq ?_
      refine kwp_region ?_
      refine kd (v_fb fa_83_2) ?_
      refine kd (v_ldb Try.isAgg3) ?_
      refine kd (v_fb fa_83_2) ?_
      refine kd (v_ldb Try.isAgg3) ?_
      refine kd (v_cmp) ?_
      refine kops_nil ?_
      refine kn_then ?_
      refine kwp_cond rfl (fun hc5 => ?_) (fun hc5 => ?_)
      ·
        replace h := e_t h hc5
        refine kwp_seq ?_
        refine kwp_region ?_
        refine kd (v_as) ?_
        refine kops_nil ?_
        refine kn_then ?_
        refine kwp_ret ?_
        refine kr_then ?_
        obtain rfl := e_some h
        refine r1 [] ?_
        exact ⟨rfl, rfl⟩
      ·
        replace h := e_f h hc5
        refine kwp_skip ?_
        refine kn_then ?_
        refine kwp_seq ?_
        refine kwp_region ?_
        refine kd (v_as) ?_
        refine kops_nil ?_
        refine kn_then ?_
        refine kwp_ret ?_
        obtain rfl := e_some h
        refine r1 [] ?_
        exact ⟨rfl, rfl⟩

set_option maxRecDepth 20000 in
theorem w_laws_eqSillS (a0a : Option Addr) (a0n : Nat) (a0c : Nat) (b0a : Option Addr) (b0n : Nat) (b0c : Nat) {a0 : List Sill} {b0 : List Sill} {r : Bool} (h : p_laws_eqSillS a0 b0 = some r) :
    Triple Try.prog 65 [.slice a0a a0n a0c, .slice b0a b0n b0c] [⟨.slice a0a a0n a0c, 3, a0.map encSill⟩, ⟨.slice b0a b0n b0c, 3, b0.map encSill⟩] [] (fun v ch => v = .bool r ∧ ch = []) := by
  refine triple_start 27 Try.func65 Try.ntmps65 rfl rfl (fun w0 => ?_)
  refine k_len (c := a0c) (fun hl1 => ?_)
  subst hl1
  refine k_len (c := b0c) (fun hl2 => ?_)
  subst hl2
  unfold p_laws_eqSillS at h
  refine kwp_seq ?_
  refine kwp_region ?_
  refine kd (v_as) ?_
  refine kops_nil ?_
  refine kn_then ?_
  refine kwp_seq ?_
  refine kwp_seq ?_
  refine kwp_region ?_
  refine kd (v_mv) ?_
  refine kd (v_len Try.runUnderlying45) ?_
  refine kd (v_mv) ?_
  refine kd (v_len Try.runUnderlying45) ?_
  refine kd (v_cmp) ?_
  refine kops_nil ?_
  refine kn_then ?_
  refine kwp_cond rfl (fun hc3 => ?_) (fun hc3 => ?_)
  ·
    replace h := e_t h hc3
    refine kwp_seq ?_
    refine kwp_region ?_
    refine kd (v_as) ?_
    refine kops_nil ?_
    refine kn_then ?_
    refine kwp_ret ?_
    refine kr_then ?_
    obtain rfl := e_some h
    refine r1 [] ?_
    exact ⟨rfl, rfl⟩
  ·
    replace h := e_f h hc3
    refine kwp_skip ?_
    refine kn_then ?_
    refine kwp_seq ?_
    refine kwp_seq ?_
    refine kwp_region ?_
    refine kd (v_as) ?_
    refine kops_nil ?_
    refine kn_then ?_
    refine kwp_cutO (inv := []) (fun (z : Unit) (y : Unit) => []) (fun (z : Unit) (y : Unit) => []) (fun _ _ => True) h ?_ ?_
    · intro t6 h4 g5
      refine kwp_block ?_
      refine kwp_loopE (inv := [(0, .slice a0a a0.length a0c), (1, .slice b0a b0.length b0c)]) (fun (z : Int) (y : Unit) => [(5, .int .i64 z)]) (fun (z : Int) (y : Unit) => []) (fun _ _ => True) h4 ⟨(), hd_mk trivial⟩ ?_
      intro i7 y11 b8 _ h9
      unfold p_laws_eqSillS_L0 at h9
      refine kwp_seq ?_
      refine kwp_seq ?_
      refine kwp_region ?_
      refine kd (v_mv) ?_
      refine kd (v_mv) ?_
      refine kd (v_len Try.runUnderlying45) ?_
      refine kd (v_cmp) ?_
      refine kops_nil ?_
      refine kn_then ?_
      refine kwp_cond rfl (fun hc12 => ?_) (fun hc12 => ?_)
      ·
        replace h9 := e_t h9 hc12
        refine kwp_skip ?_
        refine kn_then ?_
        refine kwp_seq ?_
        refine kwp_block ?_
        refine kwp_seq ?_
        obtain ⟨j13, ej13, nj13, h9⟩ := e_idx h9
        obtain ⟨j14, ej14, nj14, h9⟩ := e_idx h9
        obtain ⟨v16, hv15, h9⟩ := e_bind h9
        refine kwp_tree (.quiet 0 (.quiet 1 (.quiet 2 (.quiet 3 (.quiet 4 (.quiet 5 (.quiet 6 (.quiet 7 (.one 8 (.quiet 9 .stop)))))))))) [] [] drawMixed (by kernel_rfl) nopan (by (repeat (first | exact Sub.refl _ | exact Sub.nil _ | refine Sub.chunk (by repeat (first | exact Pick.here | apply Pick.there | apply Pick.seg)) (by rfl) ?_ | refine Sub.seg (by repeat (first | exact PickSeg.here | exact PickSeg.all | apply PickSeg.there | apply PickSeg.seg)) ?_ | exact Sub.seg0 (by repeat (first | exact PickSeg.here | exact PickSeg.all | apply PickSeg.there | apply PickSeg.seg)) | apply Sub.assoc))) ?_
        refine kt_d rfl rfl rfl (v_mv) ?_
        refine kt_d rfl rfl rfl (v_mv) ?_
        refine kt_d rfl rfl rfl (v_ia ej13 nj13 Try.runUnderlying45 Try.sizeOf83) ?_
        refine kt_d rfl rfl rfl (v_lda (e := [_, _, _]) nj13 Try.isAgg83 Try.sizeOf83) ?_
        refine kt_d rfl rfl rfl (v_mv) ?_
        refine kt_d rfl rfl rfl (v_mv) ?_
        refine kt_d rfl rfl rfl (v_ia ej14 nj14 Try.runUnderlying45 Try.sizeOf83) ?_
        refine kt_d rfl rfl rfl (v_lda (e := [_, _, _]) nj14 Try.isAgg83 Try.sizeOf83) ?_
        refine kt_one ?_
        refine kl_k rfl rfl (n_call Try.call84 (w_laws_eqSill hv15) ?_)
        rintro _ _ ⟨rfl, rfl⟩
        refine ⟨.inl (by (repeat (first | exact Sub.refl _ | exact Sub.nil _ | refine Sub.chunk (by repeat (first | exact Pick.here | apply Pick.there | apply Pick.seg)) (by rfl) ?_ | refine Sub.seg (by repeat (first | exact PickSeg.here | exact PickSeg.all | apply PickSeg.there | apply PickSeg.seg)) ?_ | exact Sub.seg0 (by repeat (first | exact PickSeg.here | exact PickSeg.all | apply PickSeg.there | apply PickSeg.seg)) | apply Sub.assoc))), ?_⟩
        refine kt_d rfl rfl rfl (v_not) ?_
        refine kt_nil ?_
        refine kn_then ?_
        refine kwp_cond rfl (fun hc18 => ?_) (fun hc18 => ?_)
        ·
          replace h9 := e_t h9 hc18
          refine kwp_seq ?_
          refine kwp_region ?_
          refine kd (v_as) ?_
          refine kops_nil ?_
          refine kn_then ?_
          refine kwp_ret ?_
          refine kr_block ?_
          refine kr_then ?_
          refine kr_then ?_
          obtain rfl := e_some h9
          refine k_out ?_ rfl
          rintro rfl
          refine kr_block ?_
          refine kr_then ?_
          refine kr_then ?_
          obtain rfl := e_some g5
          refine r1 [] ?_
          exact ⟨rfl, rfl⟩
        ·
          replace h9 := e_f h9 hc18
          refine kwp_skip ?_
          refine kn_block ?_
          refine kn_then ?_
          refine kwp_region ?_
          refine kd (v_mv) ?_
          refine kd (v_add) ?_
          refine kd (v_as) ?_
          refine kops_nil ?_
          refine kn_then ?_
          obtain rfl := e_some h9
          exact ⟨_, (), rfl, hd_mk trivial⟩
      ·
        replace h9 := e_f h9 hc12
        refine kwp_exit ?_
        refine ke_then ?_
        obtain rfl := e_some h9
        refine k_out ?_ rfl
        rintro rfl
        refine ke_block ?_
        exact ⟨_, (), rfl, hd_mk trivial⟩
    · intro z19 y20 _ h21
      refine kn_then ?_
      refine kwp_seq ?_
      refine kwp_region ?_
      refine kd (v_as) ?_
      refine kops_nil ?_
      refine kn_then ?_
      refine kwp_ret ?_
      obtain rfl := e_some h21
      refine r1 [] ?_
      exact ⟨rfl, rfl⟩

set_option maxRecDepth 20000 in
theorem w_laws_markSillS (a0a : Option Addr) (a0n : Nat) (a0c : Nat) {a0 : List Sill} {k0 : Int} {r : Int × List Sill} (h : p_laws_markSillS a0 k0 = some r) :
    Triple Try.prog 79 [.slice a0a a0n a0c, .int .i64 k0] [] [⟨.slice a0a a0n a0c, 3, a0.map encSill⟩] (fun v ch => v = .int .i64 r.1 ∧ ch = [⟨.slice a0a a0n a0c, 3, r.2.map encSill⟩]) := by
  refine triple_start 34 Try.func79 Try.ntmps79 rfl rfl (fun w0 => ?_)
  refine k_len (c := a0c) (fun hl1 => ?_)
  subst hl1
  unfold p_laws_markSillS at h
  refine kwp_seq ?_
  refine kwp_region ?_
  refine kd (v_as) ?_
  refine kops_nil ?_
  refine kn_then ?_
  refine kwp_seq ?_
  refine kwp_seq ?_
  refine kwp_region ?_
  refine kd (v_as) ?_
  refine kops_nil ?_
  refine kn_then ?_
  refine kwp_cutE (inv := []) (fun (z : Int × List Sill) (y : Unit) => [(1, .int .i64 z.1)]) (fun (z : Int × List Sill) (y : Unit) => [⟨.slice a0a (a0.length) a0c, 3, z.2.map encSill⟩]) (fun _ _ => True) h ?_ ?_
  · intro t6 h4
    refine kwp_block ?_
    refine kwp_loopE (inv := [(0, .slice a0a a0.length a0c)]) (fun (z : Int × Int × List Sill) (y : Unit) => [(1, .int .i64 z.1), (5, .int .i64 z.2.1)]) (fun (z : Int × Int × List Sill) (y : Unit) => [⟨.slice a0a (a0.length) a0c, 3, z.2.2.map encSill⟩]) (fun _ _ => True) h4 ⟨(), hd_mk trivial⟩ ?_
    intro z12 y13 b10 _ h11
    obtain ⟨k7, i8, l9⟩ := z12
    unfold p_laws_markSillS_L0 at h11
    refine kwp_seq ?_
    refine kwp_seq ?_
    refine kwp_region ?_
    refine kd (v_mv) ?_
    refine kd (v_mv) ?_
    refine kd (v_len Try.runUnderlying45) ?_
    refine kd (v_cmp) ?_
    refine kops_nil ?_
    refine kn_then ?_
    refine kwp_cond rfl (fun hc14 => ?_) (fun hc14 => ?_)
    ·
      replace h11 := e_t h11 hc14
      refine kwp_skip ?_
      refine kn_then ?_
      refine kwp_seq ?_
      refine kwp_block ?_
      refine kwp_seq ?_
      refine kwp_region ?_
      refine kd (v_mv) ?_
      refine kd (v_mv) ?_
      refine kd (v_mv) ?_
      obtain ⟨j15, ej15, nj15, h11⟩ := e_idx h11
      refine kd (v_ia ej15 nj15 Try.runUnderlying45 Try.sizeOf83) ?_
      refine kd (v_fa nj15 fa_83_0) ?_
      refine kk (s_f { gx l9 j15 with a := k7 } nj15 Try.sizeOf3 ?_)
      refine kops_nil ?_
      refine kn_then ?_
      refine kwp_seq ?_
      refine kwp_region ?_
      refine kd (v_mv) ?_
      refine kd (v_add) ?_
      refine kd (v_as) ?_
      refine kops_nil ?_
      refine kn_then ?_
      refine kwp_seq ?_
      refine kwp_region ?_
      refine kd (v_mv) ?_
      refine kd (v_mv) ?_
      refine kd (v_mv) ?_
      refine kd (v_ia ej15 nj15 Try.runUnderlying45 Try.sizeOf83) ?_
      refine kd (v_fa nj15 fa_83_1) ?_
      refine kk (s_f { gx (l9.set j15 { gx l9 j15 with a := k7 }) j15 with b := w64 (k7 + 1) } nj15 Try.sizeOf3 ?_)
      refine kops_nil ?_
      refine kn_then ?_
      refine kwp_seq ?_
      refine kwp_region ?_
      refine kd (v_mv) ?_
      refine kd (v_add) ?_
      refine kd (v_as) ?_
      refine kops_nil ?_
      refine kn_then ?_
      refine kwp_seq ?_
      refine kwp_region ?_
      refine kd (v_mv) ?_
      refine kd (v_mv) ?_
      refine kd (v_mv) ?_
      refine kd (v_ia ej15 nj15 Try.runUnderlying45 Try.sizeOf83) ?_
      refine kd (v_fa nj15 fa_83_2) ?_
      refine kk (s_f { gx ((l9.set j15 { gx l9 j15 with a := k7 }).set j15 { gx (l9.set j15 { gx l9 j15 with a := k7 }) j15 with b := w64 (k7 + 1) }) j15 with high := w64 ((w64 (k7 + 1)) + 1) } nj15 Try.sizeOf3 ?_)
      refine kops_nil ?_
      refine kn_then ?_
      refine kwp_region ?_
      refine kd (v_mv) ?_
      refine kd (v_add) ?_
      refine kd (v_as) ?_
      refine kops_nil ?_
      refine kn_block ?_
      refine kn_then ?_
      refine kwp_region ?_
      refine kd (v_mv) ?_
      refine kd (v_add) ?_
      refine kd (v_as) ?_
      refine kops_nil ?_
      refine kn_then ?_
      obtain rfl := e_some h11
      exact ⟨_, (), rfl, hd_mk trivial⟩
    ·
      replace h11 := e_f h11 hc14
      refine kwp_exit ?_
      refine ke_then ?_
      obtain rfl := e_some h11
      refine k_out ?_ rfl
      rintro rfl
      refine ke_block ?_
      exact ⟨(), hd_mk trivial⟩
  · intro z16 y17 _ h18
    obtain ⟨k2, l3⟩ := z16
    refine kn_then ?_
    refine kwp_seq ?_
    refine kwp_region ?_
    refine kd (v_mv) ?_
    refine kd (v_as) ?_
    refine kops_nil ?_
    refine kn_then ?_
    refine kwp_ret ?_
    obtain rfl := e_some h18
    refine r1 [⟨.slice a0a (a0.length) a0c, 3, l3.map encSill⟩] ?_
    exact ⟨rfl, rfl⟩

end Go.Proofs.Ytfgialdcilldiaa
