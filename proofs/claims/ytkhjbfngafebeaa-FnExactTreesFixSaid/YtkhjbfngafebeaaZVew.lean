/- What the plain programs return, the functions of the program return; no condition. -/
import Derived.Test.YtkhjbfngafebeaaZQ
import Derived.Test.YtkhjbfngafebeaaZFa
namespace Go.Proofs.Ytkhjbfngafebeaa
open Go
set_option linter.unusedVariables false
set_option linter.unusedSimpArgs false

set_option maxRecDepth 20000 in
theorem w_laws_eqWay  {a0 : Way} {b0 : Way} {r : Bool} (h : p_laws_eqWay a0 b0 = some r) :
    Triple Try.prog 61 [.agg #[.int .i64 a0.e, .int .i64 a0.n, .int .i64 a0.u], .agg #[.int .i64 b0.e, .int .i64 b0.n, .int .i64 b0.u]] [] [] (fun v ch => v = .bool r ∧ ch = []) := by
  refine triple_start 20 Try.func61 Try.ntmps61 rfl rfl (fun w0 => ?_)
  unfold p_laws_eqWay at h
  refine kwp_seq ?_
  refine kwp_region ?_
  refine kk (n_box (e := [.int .i64 a0.e, .int .i64 a0.n, .int .i64 a0.u]) 3 (fun p2_1 => ?_))
  refine kk (n_box (e := [.int .i64 b0.e, .int .i64 b0.n, .int .i64 b0.u]) 3 (fun p3_2 => ?_))
  refine kd (v_as) ?_
  refine kops_nil ?_
  refine kn_then ?_
  refine kwp_seq ?_
  refine kwp_seq ?_
  refine kwp_region ?_
  refine kd (v_fb fa_55_0) ?_
  refine kd (v_ldb Try.isAgg3) ?_
  refine kd (v_fb fa_55_0) ?_
  refine kd (v_ldb Try.isAgg3) ?_
  refine kd (v_cmp) ?_
  refine kops_nil ?_
  refine kn_then ?_
  refine kwp_cond rfl (fun hc3 => ?_) (fun hc3 => ?_)
  ·
    replace h := e_t h hc3
    refine kwp_seq ?_
    refine kwp_region ?_
    refine kd (v_as) ?_
    refine kops_nil ?_
    refine kn_then ?_
    refine kwp_ret ?_
    refine kr_then ?_
    obtain rfl := e_some h
    refine r1 [] ?_
    exact ⟨rfl, rfl⟩
  ·
    replace h := e_f h hc3
    refine kwp_skip ?_
    refine kn_then ?_
    refine kwp_seq ?_
    refine kwp_seq ?_
    refine kwp_region ?_
    refine kd (v_fb fa_55_1) ?_
    refine kd (v_ldb Try.isAgg3) ?_
    refine kd (v_fb fa_55_1) ?_
    refine kd (v_ldb Try.isAgg3) ?_
    refine kd (v_cmp) ?_
    refine kops_nil ?_
    refine kn_then ?_
    refine kwp_cond rfl (fun hc4 => ?_) (fun hc4 => ?_)
    ·
      replace h := e_t h hc4
      refine kwp_seq ?_
      refine kwp_region ?_
      refine kd (v_as) ?_
      refine kops_nil ?_
      refine kn_then ?_
      refine kwp_ret ?_
      refine kr_then ?_
      obtain rfl := e_some h
      refine r1 [] ?_
      exact ⟨rfl, rfl⟩
    ·
      replace h := e_f h hc4
      refine kwp_skip ?_
      refine kn_then ?_
      refine kwp_seq ?_
      refine kwp_seq ?_
      refine kwp_region ?_
      refine kd (v_fb fa_55_2) ?_
      refine kd (v_ldb Try.isAgg3) ?_
      refine kd (v_fb fa_55_2) ?_
      refine kd (v_ldb Try.isAgg3) ?_
      refine kd (v_cmp) ?_
      refine kops_nil ?_
      refine kn_then ?_
      refine kwp_cond rfl (fun hc5 => ?_) (fun hc5 => ?_)
      ·
        replace h := e_t h hc5
        refine kwp_seq ?_
        refine kwp_region ?_
        refine kd (v_as) ?_
        refine kops_nil ?_
        refine kn_then ?_
        refine kwp_ret ?_
        refine kr_then ?_
        obtain rfl := e_some h
        refine r1 [] ?_
        exact ⟨rfl, rfl⟩
      ·
        replace h := e_f h hc5
        refine kwp_skip ?_
        refine kn_then ?_
        refine kwp_seq ?_
        refine kwp_region ?_
        refine kd (v_as) ?_
        refine kops_nil ?_
        refine kn_then ?_
        refine kwp_ret ?_
        obtain rfl := e_some h
        refine r1 [] ?_
        exact ⟨rfl, rfl⟩

set_option maxRecDepth 20000 in
theorem w_laws_eqWayS (a0a : Option Addr) (a0n : Nat) (a0c : Nat) (b0a : Option Addr) (b0n : Nat) (b0c : Nat) {a0 : List Way} {b0 : List Way} {r : Bool} (h : p_laws_eqWayS a0 b0 = some r) :
    Triple Try.prog 33 [.slice a0a a0n a0c, .slice b0a b0n b0c] [⟨.slice a0a a0n a0c, 3, a0.map encWay⟩, ⟨.slice b0a b0n b0c, 3, b0.map encWay⟩] [] (fun v ch => v = .bool r ∧ ch = []) := by
  refine triple_start 27 Try.func33 Try.ntmps33 rfl rfl (fun w0 => ?_)
  refine k_len (c := a0c) (fun hl1 => ?_)
  subst hl1
  refine k_len (c := b0c) (fun hl2 => ?_)
  subst hl2
  unfold p_laws_eqWayS at h
  refine kwp_seq ?_
  refine kwp_region ?_
  refine kd (v_as) ?_
  refine kops_nil ?_
  refine kn_then ?_
  refine kwp_seq ?_
  refine kwp_seq ?_
  refine kwp_region ?_
  refine kd (v_mv) ?_
  refine kd (v_len Try.runUnderlying26) ?_
  refine kd (v_mv) ?_
  refine kd (v_len Try.runUnderlying26) ?_
  refine kd (v_cmp) ?_
  refine kops_nil ?_
  refine kn_then ?_
  refine kwp_cond rfl (fun hc3 => ?_) (fun hc3 => ?_)
  ·
    replace h := e_t h hc3
    refine kwp_seq ?_
    refine kwp_region ?_
    refine kd (v_as) ?_
    refine kops_nil ?_
    refine kn_then ?_
    refine kwp_ret ?_
    refine kr_then ?_
    obtain rfl := e_some h
    refine r1 [] ?_
    exact ⟨rfl, rfl⟩
  ·
    replace h := e_f h hc3
    refine kwp_skip ?_
    refine kn_then ?_
    refine kwp_seq ?_
    refine kwp_seq ?_
    refine kwp_region ?_
    refine kd (v_as) ?_
    refine kops_nil ?_
    refine kn_then ?_
    refine kwp_cutO (inv := []) (fun (z : Unit) (y : Unit) => []) (fun (z : Unit) (y : Unit) => []) (fun _ _ => True) h ?_ ?_
    · intro t6 h4 g5
      refine kwp_block ?_
      refine kwp_loopE (inv := [(0, .slice a0a a0.length a0c), (1, .slice b0a b0.length b0c)]) (fun (z : Int) (y : Unit) => [(5, .int .i64 z)]) (fun (z : Int) (y : Unit) => []) (fun _ _ => True) h4 ⟨(), hd_mk trivial⟩ ?_
      intro i7 y11 b8 _ h9
      unfold p_laws_eqWayS_L0 at h9
      refine kwp_seq ?_
      refine kwp_seq ?_
      refine kwp_region ?_
      refine kd (v_mv) ?_
      refine kd (v_mv) ?_
      refine kd (v_len Try.runUnderlying26) ?_
      refine kd (v_cmp) ?_
      refine kops_nil ?_
      refine kn_then ?_
      refine kwp_cond rfl (fun hc12 => ?_) (fun hc12 => ?_)
      ·
        replace h9 := e_t h9 hc12
        refine kwp_skip ?_
        refine kn_then ?_
        refine kwp_seq ?_
        refine kwp_block ?_
        refine kwp_seq ?_
        obtain ⟨j13, ej13, nj13, h9⟩ := e_idx h9
        obtain ⟨j14, ej14, nj14, h9⟩ := e_idx h9
        obtain ⟨v16, hv15, h9⟩ := e_bind h9
        refine kwp_tree (.quiet 0 (.quiet 1 (.quiet 2 (.quiet 3 (.quiet 4 (.quiet 5 (.quiet 6 (.quiet 7 (.one 8 (.quiet 9 .stop)))))))))) [] [] drawMixed (by kernel_rfl) nopan (by (repeat (first | exact Sub.refl _ | exact Sub.nil _ | refine Sub.chunk (by repeat (first | exact Pick.here | apply Pick.there | apply Pick.seg)) (by rfl) ?_ | refine Sub.seg (by repeat (first | exact PickSeg.here | exact PickSeg.all | apply PickSeg.there | apply PickSeg.seg)) ?_ | exact Sub.seg0 (by repeat (first | exact PickSeg.here | exact PickSeg.all | apply PickSeg.there | apply PickSeg.seg)) | apply Sub.assoc))) ?_
        refine kt_d rfl rfl rfl (v_mv) ?_
        refine kt_d rfl rfl rfl (v_mv) ?_
        refine kt_d rfl rfl rfl (v_ia ej13 nj13 Try.runUnderlying26 Try.sizeOf55) ?_
        refine kt_d rfl rfl rfl (v_lda (e := [_, _, _]) nj13 Try.isAgg55 Try.sizeOf55) ?_
        refine kt_d rfl rfl rfl (v_mv) ?_
        refine kt_d rfl rfl rfl (v_mv) ?_
        refine kt_d rfl rfl rfl (v_ia ej14 nj14 Try.runUnderlying26 Try.sizeOf55) ?_
        refine kt_d rfl rfl rfl (v_lda (e := [_, _, _]) nj14 Try.isAgg55 Try.sizeOf55) ?_
        refine kt_one ?_
        refine kl_k rfl rfl (n_call Try.call61 (w_laws_eqWay hv15) ?_)
        rintro _ _ ⟨rfl, rfl⟩
        refine ⟨.inl (by (repeat (first | exact Sub.refl _ | exact Sub.nil _ | refine Sub.chunk (by repeat (first | exact Pick.here | apply Pick.there | apply Pick.seg)) (by rfl) ?_ | refine Sub.seg (by repeat (first | exact PickSeg.here | exact PickSeg.all | apply PickSeg.there | apply PickSeg.seg)) ?_ | exact Sub.seg0 (by repeat (first | exact PickSeg.here | exact PickSeg.all | apply PickSeg.there | apply PickSeg.seg)) | apply Sub.assoc))), ?_⟩
        refine kt_d rfl rfl rfl (v_not) ?_
        refine kt_nil ?_
        refine kn_then ?_
        refine kwp_cond rfl (fun hc18 => ?_) (fun hc18 => ?_)
        ·
          replace h9 := e_t h9 hc18
          refine kwp_seq ?_
          refine kwp_region ?_
          refine kd (v_as) ?_
          refine kops_nil ?_
          refine kn_then ?_
          refine kwp_ret ?_
          refine kr_block ?_
          refine kr_then ?_
          refine kr_then ?_
          obtain rfl := e_some h9
          refine k_out ?_ rfl
          rintro rfl
          refine kr_block ?_
          refine kr_then ?_
          refine kr_then ?_
          obtain rfl := e_some g5
          refine r1 [] ?_
          exact ⟨rfl, rfl⟩
        ·
          replace h9 := e_f h9 hc18
          refine kwp_skip ?_
          refine kn_block ?_
          refine kn_then ?_
          refine kwp_region ?_
          refine kd (v_mv) ?_
          refine kd (v_add) ?_
          refine kd (v_as) ?_
          refine kops_nil ?_
          refine kn_then ?_
          obtain rfl := e_some h9
          exact ⟨_, (), rfl, hd_mk trivial⟩
      ·
        replace h9 := e_f h9 hc12
        refine kwp_exit ?_
        refine ke_then ?_
        obtain rfl := e_some h9
        refine k_out ?_ rfl
        rintro rfl
        refine ke_block ?_
        exact ⟨_, (), rfl, hd_mk trivial⟩
    · intro z19 y20 _ h21
      refine kn_then ?_
      refine kwp_seq ?_
      refine kwp_region ?_
      refine kd (v_as) ?_
      refine kops_nil ?_
      refine kn_then ?_
      refine kwp_ret ?_
      obtain rfl := e_some h21
      refine r1 [] ?_
      exact ⟨rfl, rfl⟩

set_option maxRecDepth 20000 in
theorem w_laws_eqFix (a01a : Option Addr) (a01n : Nat) (a01c : Nat) (b01a : Option Addr) (b01n : Nat) (b01c : Nat) {a0 : Fix} {b0 : Fix} {r : Bool} (h : p_laws_eqFix a0 b0 = some r) :
    Triple Try.prog 10 [.agg #[.int .i64 a0.den, .slice a01a a01n a01c], .agg #[.int .i64 b0.den, .slice b01a b01n b01c]] [⟨.slice a01a a01n a01c, 3, a0.nums.map encWay⟩, ⟨.slice b01a b01n b01c, 3, b0.nums.map encWay⟩] [] (fun v ch => v = .bool r ∧ ch = []) := by
  refine triple_start 16 Try.func10 Try.ntmps10 rfl rfl (fun w0 => ?_)
  refine k_len (c := a01c) (fun hl1 => ?_)
  subst hl1
  refine k_len (c := b01c) (fun hl2 => ?_)
  subst hl2
  unfold p_laws_eqFix at h
  refine kwp_seq ?_
  refine kwp_region ?_
  refine kk (n_box (e := [.int .i64 a0.den, .slice a01a a0.nums.length a01c]) 2 (fun p2_3 => ?_))
  refine kk (n_box (e := [.int .i64 b0.den, .slice b01a b0.nums.length b01c]) 2 (fun p3_4 => ?_))
  refine kd (v_as) ?_
  refine kops_nil ?_
  refine kn_then ?_
  refine kwp_seq ?_
  refine kwp_seq ?_
  refine kwp_region ?_
  refine kd (v_fb fa_28_0) ?_
  refine kd (v_ldb Try.isAgg3) ?_
  refine kd (v_fb fa_28_0) ?_
  refine kd (v_ldb Try.isAgg3) ?_
  refine kd (v_cmp) ?_
  refine kops_nil ?_
  refine kn_then ?_
  refine kwp_cond rfl (fun hc5 => ?_) (fun hc5 => ?_)
  ·
    replace h := e_t h hc5
    refine kwp_seq ?_
    refine kwp_region ?_
    refine kd (v_as) ?_
    refine kops_nil ?_
    refine kn_then ?_
    refine kwp_ret ?_
    refine kr_then ?_
    obtain rfl := e_some h
    refine r1 [] ?_
    exact ⟨rfl, rfl⟩
  ·
    replace h := e_f h hc5
    refine kwp_skip ?_
    refine kn_then ?_
    refine kwp_seq ?_
    refine kwp_seq ?_
    refine kwp_region ?_
    refine kd (v_fb fa_28_1) ?_
    refine kd (v_ldb Try.isAgg26) ?_
    refine kd (v_fb fa_28_1) ?_
    refine kd (v_ldb Try.isAgg26) ?_
    obtain ⟨v7, hv6, h⟩ := e_bind h
    refine kk (n_call Try.call33 (w_laws_eqWayS a01a a0.nums.length a01c b01a b0.nums.length b01c hv6) ?_)
    rintro _ _ ⟨rfl, rfl⟩
    refine kd (v_not) ?_
    refine kops_nil ?_
    refine kn_then ?_
    refine kwp_cond rfl (fun hc9 => ?_) (fun hc9 => ?_)
    ·
      replace h := e_t h hc9
      refine kwp_seq ?_
      refine kwp_region ?_
      refine kd (v_as) ?_
      refine kops_nil ?_
      refine kn_then ?_
      refine kwp_ret ?_
      refine kr_then ?_
      obtain rfl := e_some h
      refine r1 [] ?_
      exact ⟨rfl, rfl⟩
    ·
      replace h := e_f h hc9
      refine kwp_skip ?_
      refine kn_then ?_
      refine kwp_seq ?_
      refine kwp_region ?_
      refine kd (v_as) ?_
      refine kops_nil ?_
      refine kn_then ?_
      refine kwp_ret ?_
      obtain rfl := e_some h
      refine r1 [] ?_
      exact ⟨rfl, rfl⟩

set_option maxRecDepth 20000 in
theorem w_laws_markWayS (a0a : Option Addr) (a0n : Nat) (a0c : Nat) {a0 : List Way} {k0 : Int} {r : Int × List Way} (h : p_laws_markWayS a0 k0 = some r) :
    Triple Try.prog 36 [.slice a0a a0n a0c, .int .i64 k0] [] [⟨.slice a0a a0n a0c, 3, a0.map encWay⟩] (fun v ch => v = .int .i64 r.1 ∧ ch = [⟨.slice a0a a0n a0c, 3, r.2.map encWay⟩]) := by
  refine triple_start 34 Try.func36 Try.ntmps36 rfl rfl (fun w0 => ?_)
  refine k_len (c := a0c) (fun hl1 => ?_)
  subst hl1
  unfold p_laws_markWayS at h
  refine kwp_seq ?_
  refine kwp_region ?_
  refine kd (v_as) ?_
  refine kops_nil ?_
  refine kn_then ?_
  refine kwp_seq ?_
  refine kwp_seq ?_
  refine kwp_region ?_
  refine kd (v_as) ?_
  refine kops_nil ?_
  refine kn_then ?_
  refine kwp_cutE (inv := []) (fun (z : Int × List Way) (y : Unit) => [(1, .int .i64 z.1)]) (fun (z : Int × List Way) (y : Unit) => [⟨.slice a0a (a0.length) a0c, 3, z.2.map encWay⟩]) (fun _ _ => True) h ?_ ?_
  · intro t6 h4
    refine kwp_block ?_
    refine kwp_loopE (inv := [(0, .slice a0a a0.length a0c)]) (fun (z : Int × Int × List Way) (y : Unit) => [(1, .int .i64 z.1), (5, .int .i64 z.2.1)]) (fun (z : Int × Int × List Way) (y : Unit) => [⟨.slice a0a (a0.length) a0c, 3, z.2.2.map encWay⟩]) (fun _ _ => True) h4 ⟨(), hd_mk trivial⟩ ?_
    intro z12 y13 b10 _ h11
    obtain ⟨k7, i8, l9⟩ := z12
    unfold p_laws_markWayS_L0 at h11
    refine kwp_seq ?_
    refine kwp_seq ?_
    refine kwp_region ?_
    refine kd (v_mv) ?_
    refine kd (v_mv) ?_
    refine kd (v_len Try.runUnderlying26) ?_
    refine kd (v_cmp) ?_
    refine kops_nil ?_
    refine kn_then ?_
    refine kwp_cond rfl (fun hc14 => ?_) (fun hc14 => ?_)
    ·
      replace h11 := e_t h11 hc14
      refine kwp_skip ?_
      refine kn_then ?_
      refine kwp_seq ?_
      refine kwp_block ?_
      refine kwp_seq ?_
      refine kwp_region ?_
      refine kd (v_mv) ?_
      refine kd (v_mv) ?_
      refine kd (v_mv) ?_
      obtain ⟨j15, ej15, nj15, h11⟩ := e_idx h11
      refine kd (v_ia ej15 nj15 Try.runUnderlying26 Try.sizeOf55) ?_
      refine kd (v_fa nj15 fa_55_0) ?_
      refine kk (s_f { gx l9 j15 with e := k7 } nj15 Try.sizeOf3 ?_)
      refine kops_nil ?_
      refine kn_then ?_
      refine kwp_seq ?_
      refine kwp_region ?_
      refine kd (v_mv) ?_
      refine kd (v_add) ?_
      refine kd (v_as) ?_
      refine kops_nil ?_
      refine kn_then ?_
      refine kwp_seq ?_
      refine kwp_region ?_
      refine kd (v_mv) ?_
      refine kd (v_mv) ?_
      refine kd (v_mv) ?_
      refine kd (v_ia ej15 nj15 Try.runUnderlying26 Try.sizeOf55) ?_
      refine kd (v_fa nj15 fa_55_1) ?_
      refine kk (s_f { gx (l9.set j15 { gx l9 j15 with e := k7 }) j15 with n := w64 (k7 + 1) } nj15 Try.sizeOf3 ?_)
      refine kops_nil ?_
      refine kn_then ?_
      refine kwp_seq ?_
      refine kwp_region ?_
      refine kd (v_mv) ?_
      refine kd (v_add) ?_
      refine kd (v_as) ?_
      refine kops_nil ?_
      refine kn_then ?_
      refine kwp_seq ?_
      refine kwp_region ?_
      refine kd (v_mv) ?_
      refine kd (v_mv) ?_
      refine kd (v_mv) ?_
      refine kd (v_ia ej15 nj15 Try.runUnderlying26 Try.sizeOf55) ?_
      refine kd (v_fa nj15 fa_55_2) ?_
      refine kk (s_f { gx ((l9.set j15 { gx l9 j15 with e := k7 }).set j15 { gx (l9.set j15 { gx l9 j15 with e := k7 }) j15 with n := w64 (k7 + 1) }) j15 with u := w64 ((w64 (k7 + 1)) + 1) } nj15 Try.sizeOf3 ?_)
      refine kops_nil ?_
      refine kn_then ?_
      refine kwp_region ?_
      refine kd (v_mv) ?_
      refine kd (v_add) ?_
      refine kd (v_as) ?_
      refine kops_nil ?_
      refine kn_block ?_
      refine kn_then ?_
      refine kwp_region ?_
      refine kd (v_mv) ?_
      refine kd (v_add) ?_
      refine kd (v_as) ?_
      refine kops_nil ?_
      refine kn_then ?_
      obtain rfl := e_some h11
      exact ⟨_, (), rfl, hd_mk trivial⟩
    ·
      replace h11 := e_f h11 hc14
      refine kwp_exit ?_
      refine ke_then ?_
      obtain rfl := e_some h11
      refine k_out ?_ rfl
      rintro rfl
      refine ke_block ?_
      exact ⟨(), hd_mk trivial⟩
  · intro z16 y17 _ h18
    obtain ⟨k2, l3⟩ := z16
    refine kn_then ?_
    refine kwp_seq ?_
    refine kwp_region ?_
    refine kd (v_mv) ?_
    refine kd (v_as) ?_
    refine kops_nil ?_
    refine kn_then ?_
    refine kwp_ret ?_
    obtain rfl := e_some h18
    refine r1 [⟨.slice a0a (a0.length) a0c, 3, l3.map encWay⟩] ?_
    exact ⟨rfl, rfl⟩

set_option maxRecDepth 20000 in
theorem w_laws_markFix (a01a : Option Addr) (a01n : Nat) (a01c : Nat) {a0 : Fix} {k0 : Int} {r : Int × List Way} (h : p_laws_markFix a0 k0 = some r) :
    Triple Try.prog 13 [.agg #[.int .i64 a0.den, .slice a01a a01n a01c], .int .i64 k0] [] [⟨.slice a01a a01n a01c, 3, a0.nums.map encWay⟩] (fun v ch => v = .int .i64 r.1 ∧ ch = [⟨.slice a01a a01n a01c, 3, r.2.map encWay⟩]) := by
  refine triple_start 10 Try.func13 Try.ntmps13 rfl rfl (fun w0 => ?_)
  refine k_len (c := a01c) (fun hl1 => ?_)
  subst hl1
  unfold p_laws_markFix at h
  refine kwp_seq ?_
  refine kwp_region ?_
  refine kk (n_box (e := [.int .i64 a0.den, .slice a01a a0.nums.length a01c]) 2 (fun p2_2 => ?_))
  refine kd (v_as) ?_
  refine kops_nil ?_
  refine kn_then ?_
  refine kwp_seq ?_
  refine kwp_region ?_
  refine kd (v_fb fa_28_1) ?_
  refine kd (v_ldb Try.isAgg26) ?_
  refine kd (v_mv) ?_
  obtain ⟨⟨v4, v5⟩, hv3, h⟩ := e_bind h
  refine kk (n_call Try.call36 (w_laws_markWayS a01a a0.nums.length a01c hv3) ?_)
  rintro _ _ ⟨rfl, rfl⟩
  refine kd (v_as) ?_
  refine kops_nil ?_
  refine kn_then ?_
  refine kwp_seq ?_
  refine kwp_region ?_
  refine kd (v_mv) ?_
  refine kd (v_as) ?_
  refine kops_nil ?_
  refine kn_then ?_
  refine kwp_ret ?_
  obtain rfl := e_some h
  refine r1 [⟨.slice a01a (a0.nums.length) a01c, 3, v5.map encWay⟩] ?_
  exact ⟨rfl, rfl⟩

set_option maxRecDepth 20000 in
set_option maxHeartbeats 2000000 in
theorem w_laws_heldWayS (a0a : Option Addr) (a0n : Nat) (a0c : Nat) {a0 : List Way} {k0 : Int} {r : Int} (h : p_laws_heldWayS a0 k0 = some r) :
    Triple Try.prog 37 [.slice a0a a0n a0c, .int .i64 k0] [⟨.slice a0a a0n a0c, 3, a0.map encWay⟩] [] (fun v ch => v = .int .i64 r ∧ ch = []) := by
  refine triple_start 40 Try.func37 Try.ntmps37 rfl rfl (fun w0 => ?_)
  refine k_len (c := a0c) (fun hl1 => ?_)
  subst hl1
  unfold p_laws_heldWayS at h
  refine kwp_seq ?_
  refine kwp_region ?_
  refine kd (v_as) ?_
  refine kops_nil ?_
  refine kn_then ?_
  refine kwp_seq ?_
  refine kwp_seq ?_
  refine kwp_region ?_
  refine kd (v_as) ?_
  refine kops_nil ?_
  refine kn_then ?_
  refine kwp_cutO (inv := []) (fun (z : Int) (y : Unit) => [(1, .int .i64 z)]) (fun (z : Int) (y : Unit) => []) (fun _ _ => True) h ?_ ?_
  · intro t5 h3 g4
    refine kwp_block ?_
    refine kwp_loopE (inv := [(0, .slice a0a a0.length a0c)]) (fun (z : Int × Int) (y : Unit) => [(1, .int .i64 z.1), (5, .int .i64 z.2)]) (fun (z : Int × Int) (y : Unit) => []) (fun _ _ => True) h3 ⟨(), hd_mk trivial⟩ ?_
    intro z10 y11 b8 _ h9
    obtain ⟨k6, i7⟩ := z10
    unfold p_laws_heldWayS_L0 at h9
    refine kwp_seq ?_
    refine kwp_seq ?_
    refine kwp_region ?_
    refine kd (v_mv) ?_
    refine kd (v_mv) ?_
    refine kd (v_len Try.runUnderlying26) ?_
    refine kd (v_cmp) ?_
    refine kops_nil ?_
    refine kn_then ?_
    refine kwp_cond rfl (fun hc12 => ?_) (fun hc12 => ?_)
    ·
      replace h9 := e_t h9 hc12
      refine kwp_skip ?_
      refine kn_then ?_
      refine kwp_seq ?_
      refine kwp_block ?_
      refine kwp_seq ?_
      refine kwp_seq ?_
      refine kwp_region ?_
      refine kd (v_mv) ?_
      refine kd (v_mv) ?_
      obtain ⟨j13, ej13, nj13, h9⟩ := e_idx h9
      refine kd (v_ia ej13 nj13 Try.runUnderlying26 Try.sizeOf55) ?_
      refine kd (v_fa nj13 fa_55_0) ?_
      refine kd (v_ldf nj13 Try.isAgg3) ?_
      refine kd (v_mv) ?_
      refine kd (v_cmp) ?_
      refine kops_nil ?_
      refine kn_then ?_
      refine kwp_cond rfl (fun hc14 => ?_) (fun hc14 => ?_)
      ·
        replace h9 := e_t h9 hc14
        refine kwp_seq ?_
        refine kwp_region ?_
        refine kd (v_as) ?_
        refine kops_nil ?_
        refine kn_then ?_
        refine kwp_ret ?_
        refine kr_then ?_
        refine kr_block ?_
        refine kr_then ?_
        refine kr_then ?_
        obtain rfl := e_some h9
        refine k_out ?_ rfl
        rintro rfl
        refine kr_block ?_
        refine kr_then ?_
        refine kr_then ?_
        obtain rfl := e_some g4
        refine r1 [] ?_
        exact ⟨rfl, rfl⟩
      ·
        replace h9 := e_f h9 hc14
        refine kwp_skip ?_
        refine kn_then ?_
        refine kwp_seq ?_
        refine kwp_region ?_
        refine kd (v_mv) ?_
        refine kd (v_add) ?_
        refine kd (v_as) ?_
        refine kops_nil ?_
        refine kn_then ?_
        refine kwp_seq ?_
        refine kwp_seq ?_
        refine kwp_region ?_
        refine kd (v_mv) ?_
        refine kd (v_mv) ?_
        refine kd (v_ia ej13 nj13 Try.runUnderlying26 Try.sizeOf55) ?_
        refine kd (v_fa nj13 fa_55_1) ?_
        refine kd (v_ldf nj13 Try.isAgg3) ?_
        refine kd (v_mv) ?_
        refine kd (v_cmp) ?_
        refine kops_nil ?_
        refine kn_then ?_
        refine kwp_cond rfl (fun hc15 => ?_) (fun hc15 => ?_)
        ·
          replace h9 := e_t h9 hc15
          refine kwp_seq ?_
          refine kwp_region ?_
          refine kd (v_as) ?_
          refine kops_nil ?_
          refine kn_then ?_
          refine kwp_ret ?_
          refine kr_then ?_
          refine kr_block ?_
          refine kr_then ?_
          refine kr_then ?_
          obtain rfl := e_some h9
          refine k_out ?_ rfl
          rintro rfl
          refine kr_block ?_
          refine kr_then ?_
          refine kr_then ?_
          obtain rfl := e_some g4
          refine r1 [] ?_
          exact ⟨rfl, rfl⟩
        ·
          replace h9 := e_f h9 hc15
          refine kwp_skip ?_
          refine kn_then ?_
          refine kwp_seq ?_
          refine kwp_region ?_
          refine kd (v_mv) ?_
          refine kd (v_add) ?_
          refine kd (v_as) ?_
          refine kops_nil ?_
          refine kn_then ?_
          refine kwp_seq ?_
          refine kwp_seq ?_
          refine kwp_region ?_
          refine kd (v_mv) ?_
          refine kd (v_mv) ?_
          refine kd (v_ia ej13 nj13 Try.runUnderlying26 Try.sizeOf55) ?_
          refine kd (v_fa nj13 fa_55_2) ?_
          refine kd (v_ldf nj13 Try.isAgg3) ?_
          refine kd (v_mv) ?_
          refine kd (v_cmp) ?_
          refine kops_nil ?_
          refine kn_then ?_
          refine kwp_cond rfl (fun hc16 => ?_) (fun hc16 => ?_)
          ·
            replace h9 := e_t h9 hc16
            refine kwp_seq ?_
            refine kwp_region ?_
            refine kd (v_as) ?_
            refine kops_nil ?_
            refine kn_then ?_
            refine kwp_ret ?_
            refine kr_then ?_
            refine kr_block ?_
            refine kr_then ?_
            refine kr_then ?_
            obtain rfl := e_some h9
            refine k_out ?_ rfl
            rintro rfl
            refine kr_block ?_
            refine kr_then ?_
            refine kr_then ?_
            obtain rfl := e_some g4
            refine r1 [] ?_
            exact ⟨rfl, rfl⟩
          ·
            replace h9 := e_f h9 hc16
            refine kwp_skip ?_
            refine kn_then ?_
            refine kwp_region ?_
            refine kd (v_mv) ?_
            refine kd (v_add) ?_
            refine kd (v_as) ?_
            refine kops_nil ?_
            refine kn_block ?_
            refine kn_then ?_
            refine kwp_region ?_
            refine kd (v_mv) ?_
            refine kd (v_add) ?_
            refine kd (v_as) ?_
            refine kops_nil ?_
            refine kn_then ?_
            obtain rfl := e_some h9
            exact ⟨_, (), rfl, hd_mk trivial⟩
    ·
      replace h9 := e_f h9 hc12
      refine kwp_exit ?_
      refine ke_then ?_
      obtain rfl := e_some h9
      refine k_out ?_ rfl
      rintro rfl
      refine ke_block ?_
      exact ⟨_, (), rfl, hd_mk trivial⟩
  · intro k2 y18 _ h19
    refine kn_then ?_
    refine kwp_seq ?_
    refine kwp_region ?_
    refine kd (v_mv) ?_
    refine kd (v_as) ?_
    refine kops_nil ?_
    refine kn_then ?_
    refine kwp_ret ?_
    obtain rfl := e_some h19
    refine r1 [] ?_
    exact ⟨rfl, rfl⟩

set_option maxRecDepth 20000 in
theorem w_laws_heldFix (a01a : Option Addr) (a01n : Nat) (a01c : Nat) {a0 : Fix} {k0 : Int} {r : Int} (h : p_laws_heldFix a0 k0 = some r) :
    Triple Try.prog 14 [.agg #[.int .i64 a0.den, .slice a01a a01n a01c], .int .i64 k0] [⟨.slice a01a a01n a01c, 3, a0.nums.map encWay⟩] [] (fun v ch => v = .int .i64 r ∧ ch = []) := by
  refine triple_start 12 Try.func14 Try.ntmps14 rfl rfl (fun w0 => ?_)
  refine k_len (c := a01c) (fun hl1 => ?_)
  subst hl1
  unfold p_laws_heldFix at h
  refine kwp_seq ?_
  refine kwp_region ?_
  refine kk (n_box (e := [.int .i64 a0.den, .slice a01a a0.nums.length a01c]) 2 (fun p2_2 => ?_))
  refine kd (v_as) ?_
  refine kops_nil ?_
  refine kn_then ?_
  refine kwp_seq ?_
  refine kwp_region ?_
  refine kd (v_fb fa_28_1) ?_
  refine kd (v_ldb Try.isAgg26) ?_
  refine kd (v_mv) ?_
  obtain ⟨v4, hv3, h⟩ := e_bind h
  refine kk (n_call Try.call37 (w_laws_heldWayS a01a a0.nums.length a01c hv3) ?_)
  rintro _ _ ⟨rfl, rfl⟩
  refine kd (v_as) ?_
  refine kops_nil ?_
  refine kn_then ?_
  refine kwp_seq ?_
  refine kwp_seq ?_
  refine kwp_region ?_
  refine kd (v_mv) ?_
  refine kd (v_cmp) ?_
  refine kops_nil ?_
  refine kn_then ?_
  refine kwp_cond rfl (fun hc6 => ?_) (fun hc6 => ?_)
  ·
    replace h := e_t h hc6
    refine kwp_seq ?_
    refine kwp_region ?_
    refine kd (v_as) ?_
    refine kops_nil ?_
    refine kn_then ?_
    refine kwp_ret ?_
    refine kr_then ?_
    obtain rfl := e_some h
    refine r1 [] ?_
    exact ⟨rfl, rfl⟩
  ·
    replace h := e_f h hc6
    refine kwp_skip ?_
    refine kn_then ?_
    refine kwp_seq ?_
    refine kwp_region ?_
    refine kd (v_mv) ?_
    refine kd (v_as) ?_
    refine kops_nil ?_
    refine kn_then ?_
    refine kwp_ret ?_
    obtain rfl := e_some h
    refine r1 [] ?_
    exact ⟨rfl, rfl⟩

end Go.Proofs.Ytkhjbfngafebeaa
