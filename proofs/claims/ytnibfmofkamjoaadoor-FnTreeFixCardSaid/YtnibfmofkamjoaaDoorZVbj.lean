/- What the plain programs return, the functions of the program return; no condition. -/
import Derived.Test.YtnibfmofkamjoaaDoorZQ
import Derived.Test.YtnibfmofkamjoaaDoorZFa
import Derived.Test.YtnibfmofkamjoaaDoorZVbl
import Derived.Test.YtnibfmofkamjoaaDoorZVbs
import Derived.Test.YtnibfmofkamjoaaDoorZVbq
namespace Go.Proofs.YtnibfmofkamjoaaDoor
open Go
set_option linter.unusedVariables false
set_option linter.unusedSimpArgs false

set_option maxRecDepth 20000 in
set_option maxHeartbeats 2000000 in
theorem w_impl_FixValid (s01a : Option Addr) (s01n : Nat) (s01c : Nat) (f01a : Option Addr) (f01n : Nat) (f01c : Nat) {s0 : Survey} {f0 : Fix} {r : Bool} (h : p_impl_FixValid s0 f0 = some r) :
    Triple Tryd.prog 22 [.agg #[.int .i64 s0.st, .slice s01a s01n s01c], .agg #[.int .i64 f0.den, .slice f01a f01n f01c]] [⟨.slice s01a s01n s01c, 5, s0.legs.map encLeg⟩, ⟨.slice f01a f01n f01c, 3, f0.nums.map encWay⟩] [] (fun v ch => v = .bool r ∧ ch = []) := by
  refine triple_start 60 Tryd.func22 Tryd.ntmps22 rfl rfl (fun w0 => ?_)
  refine k_len (c := s01c) (fun hl1 => ?_)
  subst hl1
  refine k_len (c := f01c) (fun hl2 => ?_)
  subst hl2
  unfold p_impl_FixValid at h
  refine kwp_seq ?_
  refine kwp_region ?_
  refine kk (n_box (e := [.int .i64 s0.st, .slice s01a s0.legs.length s01c]) 2 (fun p2_3 => ?_))
  refine kk (n_box (e := [.int .i64 f0.den, .slice f01a f0.nums.length f01c]) 2 (fun p3_4 => ?_))
  refine kd (v_as) ?_
  refine kops_nil ?_
  refine kn_then ?_
  refine kwp_seq ?_
  refine kwp_seq ?_
  refine kwp_cutE (inv := [(3, .pointer (some p3_4))]) (fun (z : Bool) (y : Unit) => [(35, .bool z)]) (fun (z : Bool) (y : Unit) => [⟨.pointer (some p3_4), 2, [[.int .i64 f0.den, .slice f01a f0.nums.length f01c]]⟩]) (fun _ _ => True) h ?_ ?_
  · intro t8 h6
    refine kwp_region ?_
    refine kd (v_ldB Tryd.isAgg25 Tryd.sizeOf25) ?_
    obtain ⟨v10, hv9, h6⟩ := e_bind h6
    refine kk (n_call Tryd.call29 (w_impl_SurveyValid s01a s0.legs.length s01c hv9) ?_)
    rintro _ _ ⟨rfl, rfl⟩
    refine kd (v_not) ?_
    refine kd (v_mv) ?_
    refine kops_split 10 rfl (fun hb12 => ?_) (fun hb12 => ?_)
    ·
      replace h6 := e_t h6 hb12
      refine kskip hb12 ?_
      refine kskip hb12 ?_
      refine kskip hb12 ?_
      refine kd (v_pt hb12) ?_
      refine kd (v_mv) ?_
      refine kskip rfl ?_
      refine kskip rfl ?_
      refine kskip rfl ?_
      refine kd (v_pt rfl) ?_
      refine kd (v_mv) ?_
      refine kskip rfl ?_
      refine kskip rfl ?_
      refine kskip rfl ?_
      refine kskip rfl ?_
      refine kskip rfl ?_
      refine kskip rfl ?_
      refine kd (v_pt rfl) ?_
      refine kd (v_mv) ?_
      refine kskip rfl ?_
      refine kskip rfl ?_
      refine kskip rfl ?_
      refine kskip rfl ?_
      refine kskip rfl ?_
      refine kskip rfl ?_
      refine kd (v_pt rfl) ?_
      refine kops_nil ?_
      refine kn_then ?_
      obtain rfl := e_some h6
      exact ⟨(), hd_mk trivial⟩
    ·
      replace h6 := e_f h6 hb12
      refine kgd hb12 (v_fb fa_31_0) ?_
      refine kgd hb12 (v_ldb Tryd.isAgg3) ?_
      refine kgd hb12 (v_cmp) ?_
      refine kd (v_pf hb12) ?_
      refine kd (v_mv) ?_
      refine kops_split 15 rfl (fun hb13 => ?_) (fun hb13 => ?_)
      ·
        replace h6 := e_t h6 hb13
        refine kskip hb13 ?_
        refine kskip hb13 ?_
        refine kskip hb13 ?_
        refine kd (v_pt hb13) ?_
        refine kd (v_mv) ?_
        refine kskip rfl ?_
        refine kskip rfl ?_
        refine kskip rfl ?_
        refine kskip rfl ?_
        refine kskip rfl ?_
        refine kskip rfl ?_
        refine kd (v_pt rfl) ?_
        refine kd (v_mv) ?_
        refine kskip rfl ?_
        refine kskip rfl ?_
        refine kskip rfl ?_
        refine kskip rfl ?_
        refine kskip rfl ?_
        refine kskip rfl ?_
        refine kd (v_pt rfl) ?_
        refine kops_nil ?_
        refine kn_then ?_
        obtain rfl := e_some h6
        exact ⟨(), hd_mk trivial⟩
      ·
        replace h6 := e_f h6 hb13
        refine kgd hb13 (v_fb fa_31_0) ?_
        refine kgd hb13 (v_ldb Tryd.isAgg3) ?_
        refine kgd hb13 (v_cmp) ?_
        refine kd (v_pf hb13) ?_
        refine kd (v_mv) ?_
        refine kops_split 20 rfl (fun hb14 => ?_) (fun hb14 => ?_)
        ·
          replace h6 := e_t h6 hb14
          refine kskip hb14 ?_
          refine kskip hb14 ?_
          refine kskip hb14 ?_
          refine kskip hb14 ?_
          refine kskip hb14 ?_
          refine kskip hb14 ?_
          refine kd (v_pt hb14) ?_
          refine kd (v_mv) ?_
          refine kskip rfl ?_
          refine kskip rfl ?_
          refine kskip rfl ?_
          refine kskip rfl ?_
          refine kskip rfl ?_
          refine kskip rfl ?_
          refine kd (v_pt rfl) ?_
          refine kops_nil ?_
          refine kn_then ?_
          obtain rfl := e_some h6
          exact ⟨(), hd_mk trivial⟩
        ·
          replace h6 := e_f h6 hb14
          refine kgd hb14 (v_fb fa_31_1) ?_
          refine kgd hb14 (v_ldb Tryd.isAgg29) ?_
          refine kgd hb14 (v_len Tryd.runUnderlying29) ?_
          refine kgd hb14 (v_fb fa_25_0) ?_
          refine kgd hb14 (v_ldb Tryd.isAgg3) ?_
          refine kgd hb14 (v_cmp) ?_
          refine kd (v_pf hb14) ?_
          refine kd (v_mv) ?_
          refine kops_split 28 rfl (fun hb15 => ?_) (fun hb15 => ?_)
          ·
            replace h6 := e_t h6 hb15
            refine kskip hb15 ?_
            refine kskip hb15 ?_
            refine kskip hb15 ?_
            refine kskip hb15 ?_
            refine kskip hb15 ?_
            refine kskip hb15 ?_
            refine kd (v_pt hb15) ?_
            refine kops_nil ?_
            refine kn_then ?_
            obtain rfl := e_some h6
            exact ⟨(), hd_mk trivial⟩
          ·
            replace h6 := e_f h6 hb15
            refine kgd hb15 (v_fb fa_31_1) ?_
            refine kgd hb15 (v_ldb Tryd.isAgg29) ?_
            obtain ⟨j16, ej16, nj16, h6⟩ := e_idx h6
            refine kgd hb15 (v_ia ej16 nj16 Tryd.runUnderlying29 Tryd.sizeOf37) ?_
            refine kgd hb15 (v_lda (e := [_, _, _]) nj16 Tryd.isAgg37 Tryd.sizeOf37) ?_
            refine kgd hb15 (v_bd [] [.int .i64 0, .int .i64 0, .int .i64 0] Tryd.zeroValue37 Tryd.runUnderlying37 pl_37) ?_
            refine kgd hb15 (v_nea eg_37 he_37 hp_37 (eqf_37 _ _ _ _ _ _)) ?_
            refine kd (v_pf hb15) ?_
            refine kops_nil ?_
            refine kn_then ?_
            obtain rfl := e_some h6
            exact ⟨(), hd_mk trivial⟩
  · intro x5 y18 _ h19
    refine kn_then ?_
    refine kwp_cond rfl (fun hc20 => ?_) (fun hc20 => ?_)
    ·
      replace h19 := e_t h19 hc20
      refine kwp_seq ?_
      refine kwp_region ?_
      refine kd (v_as) ?_
      refine kops_nil ?_
      refine kn_then ?_
      refine kwp_ret ?_
      refine kr_then ?_
      obtain rfl := e_some h19
      refine r1 [] ?_
      exact ⟨rfl, rfl⟩
    ·
      replace h19 := e_f h19 hc20
      refine kwp_skip ?_
      refine kn_then ?_
      refine kwp_seq ?_
      refine kwp_seq ?_
      refine kwp_region ?_
      refine kd (v_fb fa_31_1) ?_
      refine kd (v_ldb Tryd.isAgg29) ?_
      refine kd (v_len Tryd.runUnderlying29) ?_
      refine kd (v_mv) ?_
      refine kops_nil ?_
      refine kn_then ?_
      refine kwp_cutO (inv := []) (fun (z : Unit) (y : Unit) => []) (fun (z : Unit) (y : Unit) => []) (fun _ _ => True) h19 ?_ ?_
      · intro t23 h21 g22
        refine kwp_block ?_
        refine kwp_loopE (inv := [(37, .slice f01a f0.nums.length f01c), (38, .int .i64 ((f0.nums.length : Nat) : Int))]) (fun (z : Int) (y : Unit) => [(39, .int .i64 z)]) (fun (z : Int) (y : Unit) => []) (fun _ _ => True) h21 ⟨(), hd_mk trivial⟩ ?_
        intro x24 y28 b25 _ h26
        unfold p_impl_FixValid_L0 at h26
        refine kwp_seq ?_
        refine kwp_region ?_
        refine kd (v_cmp) ?_
        refine kops_nil ?_
        refine kn_then ?_
        refine kwp_seq ?_
        refine kwp_cond rfl (fun hc29 => ?_) (fun hc29 => ?_)
        ·
          replace h26 := e_t h26 hc29
          refine kwp_skip ?_
          refine kn_then ?_
          refine kwp_seq ?_
          refine kwp_block ?_
          refine kwp_seq ?_
          refine kwp_region ?_
          obtain ⟨j30, ej30, nj30, h26⟩ := e_idx h26
          refine kd (v_ia ej30 nj30 Tryd.runUnderlying29 Tryd.sizeOf37) ?_
          refine kd (v_lda (e := [_, _, _]) nj30 Tryd.isAgg37 Tryd.sizeOf37) ?_
          refine kk (n_alloc (e := [.int .i64 0, .int .i64 0, .int .i64 0]) 3 Tryd.zeroValue37 (fun p6_31 => ?_))
          refine kk (s_B (e' := [.int .i64 ((gx f0.nums j30).e), .int .i64 ((gx f0.nums j30).n), .int .i64 ((gx f0.nums j30).u)]) Tryd.sizeOf37 ?_)
          refine kops_nil ?_
          refine kn_then ?_
          refine kwp_seq ?_
          refine kwp_region ?_
          refine kd (v_fb fa_37_0) ?_
          refine kd (v_ldb Tryd.isAgg3) ?_
          obtain ⟨v33, hv32, h26⟩ := e_bind h26
          refine kk (n_call Tryd.call77 (w_impl_isWithin hv32) ?_)
          rintro _ _ ⟨rfl, rfl⟩
          refine kd (v_not) ?_
          refine kd (v_mv) ?_
          refine kops_split 47 rfl (fun hb35 => ?_) (fun hb35 => ?_)
          ·
            replace h26 := e_t h26 hb35
            refine kskip hb35 ?_
            refine kskip hb35 ?_
            refine kskip hb35 ?_
            refine kskip hb35 ?_
            refine kd (v_pt hb35) ?_
            refine kd (v_mv) ?_
            refine kskip rfl ?_
            refine kskip rfl ?_
            refine kskip rfl ?_
            refine kskip rfl ?_
            refine kd (v_pt rfl) ?_
            refine kops_nil ?_
            refine kn_then ?_
            refine kwp_cond_t rfl rfl ?_
            refine kwp_seq ?_
            refine kwp_region ?_
            refine kd (v_as) ?_
            refine kops_nil ?_
            refine kn_then ?_
            refine kwp_ret ?_
            refine kr_block ?_
            refine kr_then ?_
            refine kr_then ?_
            obtain rfl := e_some h26
            refine k_out ?_ rfl
            rintro rfl
            refine kr_block ?_
            refine kr_then ?_
            refine kr_then ?_
            obtain rfl := e_some g22
            refine r1 [] ?_
            exact ⟨rfl, rfl⟩
          ·
            replace h26 := e_f h26 hb35
            refine kgd hb35 (v_fb fa_37_1) ?_
            refine kgd hb35 (v_ldb Tryd.isAgg3) ?_
            obtain ⟨v37, hv36, h26⟩ := e_bind h26
            refine kgk hb35 (n_call Tryd.call77 (w_impl_isWithin hv36) ?_)
            rintro _ _ ⟨rfl, rfl⟩
            refine kgd hb35 (v_not) ?_
            refine kd (v_pf hb35) ?_
            refine kd (v_mv) ?_
            refine kops_split 53 rfl (fun hb39 => ?_) (fun hb39 => ?_)
            ·
              replace h26 := e_t h26 hb39
              refine kskip hb39 ?_
              refine kskip hb39 ?_
              refine kskip hb39 ?_
              refine kskip hb39 ?_
              refine kd (v_pt hb39) ?_
              refine kops_nil ?_
              refine kn_then ?_
              refine kwp_cond_t rfl rfl ?_
              refine kwp_seq ?_
              refine kwp_region ?_
              refine kd (v_as) ?_
              refine kops_nil ?_
              refine kn_then ?_
              refine kwp_ret ?_
              refine kr_block ?_
              refine kr_then ?_
              refine kr_then ?_
              obtain rfl := e_some h26
              refine k_out ?_ rfl
              rintro rfl
              refine kr_block ?_
              refine kr_then ?_
              refine kr_then ?_
              obtain rfl := e_some g22
              refine r1 [] ?_
              exact ⟨rfl, rfl⟩
            ·
              replace h26 := e_f h26 hb39
              refine kgd hb39 (v_fb fa_37_2) ?_
              refine kgd hb39 (v_ldb Tryd.isAgg3) ?_
              obtain ⟨v41, hv40, h26⟩ := e_bind h26
              refine kgk hb39 (n_call Tryd.call77 (w_impl_isWithin hv40) ?_)
              rintro _ _ ⟨rfl, rfl⟩
              refine kgd hb39 (v_not) ?_
              refine kd (v_pf hb39) ?_
              refine kops_nil ?_
              refine kn_then ?_
              refine kwp_cond rfl (fun hc43 => ?_) (fun hc43 => ?_)
              ·
                replace h26 := e_t h26 hc43
                refine kwp_seq ?_
                refine kwp_region ?_
                refine kd (v_as) ?_
                refine kops_nil ?_
                refine kn_then ?_
                refine kwp_ret ?_
                refine kr_block ?_
                refine kr_then ?_
                refine kr_then ?_
                obtain rfl := e_some h26
                refine k_out ?_ rfl
                rintro rfl
                refine kr_block ?_
                refine kr_then ?_
                refine kr_then ?_
                obtain rfl := e_some g22
                refine r1 [] ?_
                exact ⟨rfl, rfl⟩
              ·
                replace h26 := e_f h26 hc43
                refine kwp_skip ?_
                refine kn_block ?_
                refine kn_then ?_
                refine kwp_region ?_
                refine kd (v_add) ?_
                refine kd (v_mv) ?_
                refine kops_nil ?_
                refine kn_then ?_
                obtain rfl := e_some h26
                exact ⟨_, (), rfl, hd_mk trivial⟩
        ·
          replace h26 := e_f h26 hc29
          refine kwp_exit ?_
          refine ke_then ?_
          obtain rfl := e_some h26
          refine k_out ?_ rfl
          rintro rfl
          refine ke_block ?_
          exact ⟨_, (), rfl, hd_mk trivial⟩
      · intro z44 y45 _ h46
        refine kn_then ?_
        refine kwp_seq ?_
        refine kwp_region ?_
        refine kd (v_as) ?_
        refine kops_nil ?_
        refine kn_then ?_
        refine kwp_ret ?_
        obtain rfl := e_some h46
        refine r1 [] ?_
        exact ⟨rfl, rfl⟩

end Go.Proofs.YtnibfmofkamjoaaDoor
