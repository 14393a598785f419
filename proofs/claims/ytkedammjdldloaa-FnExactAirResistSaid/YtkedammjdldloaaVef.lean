/- What the plain programs return, the functions of the program return; no condition. -/
import Derived.Test.YtkedammjdldloaaQef
import Derived.Test.YtkedammjdldloaaFa
namespace Go.Proofs.Ytkedammjdldloaa
open Go
set_option linter.unusedVariables false
set_option linter.unusedSimpArgs false

set_option maxRecDepth 20000 in
theorem w_laws_eqFrac  {a0 : Frac} {b0 : Frac} {r : Bool} (h : p_laws_eqFrac a0 b0 = some r) :
    Triple Try.prog 31 [.agg #[.int .i64 a0.num, .int .i64 a0.den], .agg #[.int .i64 b0.num, .int .i64 b0.den]] [] [] (fun v ch => v = .bool r ∧ ch = []) := by
  refine triple_start 15 Try.func31 Try.ntmps31 rfl rfl (fun w0 => ?_)
  unfold p_laws_eqFrac at h
  refine kwp_seq ?_
  refine kwp_region ?_
  refine kk (n_box (e := [.int .i64 a0.num, .int .i64 a0.den]) 2 (fun p2_1 => ?_))
  refine kk (n_box (e := [.int .i64 b0.num, .int .i64 b0.den]) 2 (fun p3_2 => ?_))
  refine kd (v_as) ?_
  refine kops_nil ?_
  refine kn_then ?_
  refine kwp_seq ?_
  refine kwp_seq ?_
  refine kwp_region ?_
  refine kd (v_fb fa_51_0) ?_
  refine kd (v_ldb Try.isAgg3) ?_
  refine kd (v_fb fa_51_0) ?_
  refine kd (v_ldb Try.isAgg3) ?_
  refine kd (v_cmp) ?_
  refine kops_nil ?_
  refine kn_then ?_
  refine kwp_cond rfl (fun hc3 => ?_) (fun hc3 => ?_)
  ·
    replace h := e_t h hc3
    refine kwp_seq ?_
    refine kwp_region ?_
    refine kd (v_as) ?_
    refine kops_nil ?_
    refine kn_then ?_
    refine kwp_ret ?_
    refine kr_then ?_
    obtain rfl := e_some h
    refine r1 [] ?_
    exact ⟨rfl, rfl⟩
  ·
    replace h := e_f h hc3
    refine kwp_skip ?_
    refine kn_then ?_
    refine kwp_seq ?_
    refine kwp_seq ?_
    refine kwp_region ?_
    refine kd (v_fb fa_51_1) ?_
    refine kd (v_ldb Try.isAgg3) ?_
    refine kd (v_fb fa_51_1) ?_
    refine kd (v_ldb Try.isAgg3) ?_
    refine kd (v_cmp) ?_
    refine kops_nil ?_
    refine kn_then ?_
    refine kwp_cond rfl (fun hc4 => ?_) (fun hc4 => ?_)
    ·
      replace h := e_t h hc4
      refine kwp_seq ?_
      refine kwp_region ?_
      refine kd (v_as) ?_
      refine kops_nil ?_
      refine kn_then ?_
      refine kwp_ret ?_
      refine kr_then ?_
      obtain rfl := e_some h
      refine r1 [] ?_
      exact ⟨rfl, rfl⟩
    ·
      replace h := e_f h hc4
      refine kwp_skip ?_
      refine kn_then ?_
      refine kwp_seq ?_
      refine kwp_region ?_
      refine kd (v_as) ?_
      refine kops_nil ?_
      refine kn_then ?_
      refine kwp_ret ?_
      obtain rfl := e_some h
      refine r1 [] ?_
      exact ⟨rfl, rfl⟩

end Go.Proofs.Ytkedammjdldloaa
