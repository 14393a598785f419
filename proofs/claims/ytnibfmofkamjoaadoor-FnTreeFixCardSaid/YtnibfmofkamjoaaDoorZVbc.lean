/- What the plain programs return, the functions of the program return; no condition. -/
import Derived.Test.YtnibfmofkamjoaaDoorZQ
import Derived.Test.YtnibfmofkamjoaaDoorZFa
namespace Go.Proofs.YtnibfmofkamjoaaDoor
open Go
set_option linter.unusedVariables false
set_option linter.unusedSimpArgs false

set_option maxRecDepth 20000 in
theorem w_laws_sameFix (a01a : Option Addr) (a01n : Nat) (a01c : Nat) (b01a : Option Addr) (b01n : Nat) (b01c : Nat) {a0 : Fix} {b0 : Fix} {r : Bool} (h : p_laws_sameFix a0 b0 = some r) :
    Triple Tryd.prog 18 [.agg #[.int .i64 a0.den, .slice a01a a01n a01c], .agg #[.int .i64 b0.den, .slice b01a b01n b01c]] [⟨.slice a01a a01n a01c, 3, a0.nums.map encWay⟩, ⟨.slice b01a b01n b01c, 3, b0.nums.map encWay⟩] [] (fun v ch => v = .bool r ∧ ch = []) := by
  refine triple_start 38 Tryd.func18 Tryd.ntmps18 rfl rfl (fun w0 => ?_)
  refine k_len (c := a01c) (fun hl1 => ?_)
  subst hl1
  refine k_len (c := b01c) (fun hl2 => ?_)
  subst hl2
  unfold p_laws_sameFix at h
  refine kwp_seq ?_
  refine kwp_region ?_
  refine kk (n_box (e := [.int .i64 a0.den, .slice a01a a0.nums.length a01c]) 2 (fun p2_3 => ?_))
  refine kk (n_box (e := [.int .i64 b0.den, .slice b01a b0.nums.length b01c]) 2 (fun p3_4 => ?_))
  refine kd (v_as) ?_
  refine kops_nil ?_
  refine kn_then ?_
  refine kwp_seq ?_
  refine kwp_seq ?_
  refine kwp_cutE (inv := [(2, .pointer (some p2_3)), (3, .pointer (some p3_4))]) (fun (z : Bool) (y : Unit) => [(19, .bool z)]) (fun (z : Bool) (y : Unit) => [⟨.pointer (some p2_3), 2, [[.int .i64 a0.den, .slice a01a a0.nums.length a01c]]⟩, ⟨.pointer (some p3_4), 2, [[.int .i64 b0.den, .slice b01a b0.nums.length b01c]]⟩]) (fun _ _ => True) h ?_ ?_
  · intro t8 h6
    refine kwp_region ?_
    refine kd (v_fb fa_31_0) ?_
    refine kd (v_ldb Tryd.isAgg3) ?_
    refine kd (v_fb fa_31_0) ?_
    refine kd (v_ldb Tryd.isAgg3) ?_
    refine kd (v_cmp) ?_
    refine kd (v_mv) ?_
    refine kops_split 11 rfl (fun hb9 => ?_) (fun hb9 => ?_)
    ·
      replace h6 := e_t h6 hb9
      refine kskip hb9 ?_
      refine kskip hb9 ?_
      refine kskip hb9 ?_
      refine kskip hb9 ?_
      refine kskip hb9 ?_
      refine kskip hb9 ?_
      refine kskip hb9 ?_
      refine kd (v_pt hb9) ?_
      refine kops_nil ?_
      refine kn_then ?_
      obtain rfl := e_some h6
      exact ⟨(), hd_mk trivial⟩
    ·
      replace h6 := e_f h6 hb9
      refine kgd hb9 (v_fb fa_31_1) ?_
      refine kgd hb9 (v_ldb Tryd.isAgg29) ?_
      refine kgd hb9 (v_len Tryd.runUnderlying29) ?_
      refine kgd hb9 (v_fb fa_31_1) ?_
      refine kgd hb9 (v_ldb Tryd.isAgg29) ?_
      refine kgd hb9 (v_len Tryd.runUnderlying29) ?_
      refine kgd hb9 (v_cmp) ?_
      refine kd (v_pf hb9) ?_
      refine kops_nil ?_
      refine kn_then ?_
      obtain rfl := e_some h6
      exact ⟨(), hd_mk trivial⟩
  · intro x5 y11 _ h12
    refine kn_then ?_
    refine kwp_cond rfl (fun hc13 => ?_) (fun hc13 => ?_)
    ·
      replace h12 := e_t h12 hc13
      refine kwp_seq ?_
      refine kwp_region ?_
      refine kd (v_as) ?_
      refine kops_nil ?_
      refine kn_then ?_
      refine kwp_ret ?_
      refine kr_then ?_
      obtain rfl := e_some h12
      refine r1 [] ?_
      exact ⟨rfl, rfl⟩
    ·
      replace h12 := e_f h12 hc13
      refine kwp_skip ?_
      refine kn_then ?_
      refine kwp_seq ?_
      refine kwp_seq ?_
      refine kwp_region ?_
      refine kd (v_as) ?_
      refine kops_nil ?_
      refine kn_then ?_
      refine kwp_cutO (inv := []) (fun (z : Unit) (y : Unit) => []) (fun (z : Unit) (y : Unit) => []) (fun _ _ => True) h12 ?_ ?_
      · intro t16 h14 g15
        refine kwp_block ?_
        refine kwp_loopE (inv := [(2, .pointer (some p2_3)), (3, .pointer (some p3_4))]) (fun (z : Int) (y : Unit) => [(5, .int .i64 z)]) (fun (z : Int) (y : Unit) => [⟨.pointer (some p2_3), 2, [[.int .i64 a0.den, .slice a01a a0.nums.length a01c]]⟩, ⟨.pointer (some p3_4), 2, [[.int .i64 b0.den, .slice b01a b0.nums.length b01c]]⟩]) (fun _ _ => True) h14 ⟨(), hd_mk trivial⟩ ?_
        intro i17 y21 b18 _ h19
        unfold p_laws_sameFix_L0 at h19
        refine kwp_seq ?_
        refine kwp_seq ?_
        refine kwp_region ?_
        refine kd (v_mv) ?_
        refine kd (v_fb fa_31_1) ?_
        refine kd (v_ldb Tryd.isAgg29) ?_
        refine kd (v_len Tryd.runUnderlying29) ?_
        refine kd (v_cmp) ?_
        refine kops_nil ?_
        refine kn_then ?_
        refine kwp_cond rfl (fun hc22 => ?_) (fun hc22 => ?_)
        ·
          replace h19 := e_t h19 hc22
          refine kwp_skip ?_
          refine kn_then ?_
          refine kwp_seq ?_
          refine kwp_block ?_
          refine kwp_seq ?_
          obtain ⟨j23, ej23, nj23, h19⟩ := e_idx h19
          obtain ⟨j24, ej24, nj24, h19⟩ := e_idx h19
          refine kwp_tree (.quiet 0 (.quiet 1 (.quiet 2 (.quiet 3 (.quiet 4 (.quiet 5 (.quiet 6 (.quiet 7 (.quiet 8 (.quiet 9 (.quiet 10 .stop))))))))))) [] [⟨.pointer (some p2_3), 2, [[.int .i64 a0.den, .slice a01a a0.nums.length a01c]]⟩, ⟨.pointer (some p3_4), 2, [[.int .i64 b0.den, .slice b01a b0.nums.length b01c]]⟩] drawMixed (by kernel_rfl) nopan (by (repeat (first | exact Sub.refl _ | exact Sub.nil _ | refine Sub.chunk (by repeat (first | exact Pick.here | apply Pick.there | apply Pick.seg)) (by rfl) ?_ | refine Sub.seg (by repeat (first | exact PickSeg.here | exact PickSeg.all | apply PickSeg.there | apply PickSeg.seg)) ?_ | exact Sub.seg0 (by repeat (first | exact PickSeg.here | exact PickSeg.all | apply PickSeg.there | apply PickSeg.seg)) | apply Sub.assoc))) ?_
          refine kt_d rfl rfl rfl (v_fb fa_31_1) ?_
          refine kt_d rfl rfl rfl (v_ldb Tryd.isAgg29) ?_
          refine kt_d rfl rfl rfl (v_mv) ?_
          refine kt_d rfl rfl rfl (v_ia ej23 nj23 Tryd.runUnderlying29 Tryd.sizeOf37) ?_
          refine kt_d rfl rfl rfl (v_lda (e := [_, _, _]) nj23 Tryd.isAgg37 Tryd.sizeOf37) ?_
          refine kt_d rfl rfl rfl (v_fb fa_31_1) ?_
          refine kt_d rfl rfl rfl (v_ldb Tryd.isAgg29) ?_
          refine kt_d rfl rfl rfl (v_mv) ?_
          refine kt_d rfl rfl rfl (v_ia ej24 nj24 Tryd.runUnderlying29 Tryd.sizeOf37) ?_
          refine kt_d rfl rfl rfl (v_lda (e := [_, _, _]) nj24 Tryd.isAgg37 Tryd.sizeOf37) ?_
          refine kt_d rfl rfl rfl (v_nea eg_37 he_37 hp_37 (eqf_37 _ _ _ _ _ _)) ?_
          refine kt_nil ?_
          refine kn_then ?_
          refine kwp_cond rfl (fun hc25 => ?_) (fun hc25 => ?_)
          ·
            replace h19 := e_t h19 hc25
            refine kwp_seq ?_
            refine kwp_region ?_
            refine kd (v_as) ?_
            refine kops_nil ?_
            refine kn_then ?_
            refine kwp_ret ?_
            refine kr_block ?_
            refine kr_then ?_
            refine kr_then ?_
            obtain rfl := e_some h19
            refine k_out ?_ rfl
            rintro rfl
            refine kr_block ?_
            refine kr_then ?_
            refine kr_then ?_
            obtain rfl := e_some g15
            refine r1 [] ?_
            exact ⟨rfl, rfl⟩
          ·
            replace h19 := e_f h19 hc25
            refine kwp_skip ?_
            refine kn_block ?_
            refine kn_then ?_
            refine kwp_region ?_
            refine kd (v_mv) ?_
            refine kd (v_add) ?_
            refine kd (v_as) ?_
            refine kops_nil ?_
            refine kn_then ?_
            obtain rfl := e_some h19
            exact ⟨_, (), rfl, hd_mk trivial⟩
        ·
          replace h19 := e_f h19 hc22
          refine kwp_exit ?_
          refine ke_then ?_
          obtain rfl := e_some h19
          refine k_out ?_ rfl
          rintro rfl
          refine ke_block ?_
          exact ⟨_, (), rfl, hd_mk trivial⟩
      · intro z26 y27 _ h28
        refine kn_then ?_
        refine kwp_seq ?_
        refine kwp_region ?_
        refine kd (v_as) ?_
        refine kops_nil ?_
        refine kn_then ?_
        refine kwp_ret ?_
        obtain rfl := e_some h28
        refine r1 [] ?_
        exact ⟨rfl, rfl⟩

end Go.Proofs.YtnibfmofkamjoaaDoor
