/- What the plain programs return, the functions of the program return; no condition. -/
import Derived.Test.YtpfijnklnljccaaDoorQv
import Derived.Test.YtpfijnklnljccaaDoorFa
namespace Go.Proofs.YtpfijnklnljccaaDoor
open Go
set_option linter.unusedVariables false
set_option linter.unusedSimpArgs false

set_option maxRecDepth 20000 in
theorem w_impl_isIndex  {number0 : Int} {many0 : Int} {r : Bool} (h : p_impl_isIndex number0 many0 = some r) :
    Triple Tryd.prog 63 [.int .i64 number0, .int .i64 many0] [] [] (fun v ch => v = .bool r ∧ ch = []) := by
  refine triple_start 12 Tryd.func63 Tryd.ntmps63 rfl rfl (fun w0 => ?_)
  unfold p_impl_isIndex at h
  refine kwp_seq ?_
  refine kwp_region ?_
  refine kd (v_as) ?_
  refine kops_nil ?_
  refine kn_then ?_
  refine kwp_seq ?_
  refine kwp_region ?_
  refine kd (v_mv) ?_
  refine kd (v_cmp) ?_
  refine kd (v_mv) ?_
  refine kops_split 7 rfl (fun hb1 => ?_) (fun hb1 => ?_)
  ·
    replace h := e_t h hb1
    refine kgd hb1 (v_mv) ?_
    refine kgd hb1 (v_mv) ?_
    refine kgd hb1 (v_cmp) ?_
    refine kd (v_pt hb1) ?_
    refine kd (v_as) ?_
    refine kops_nil ?_
    refine kn_then ?_
    refine kwp_ret ?_
    obtain rfl := e_some h
    refine r1 [] ?_
    exact ⟨rfl, rfl⟩
  ·
    replace h := e_f h hb1
    refine kskip hb1 ?_
    refine kskip hb1 ?_
    refine kskip hb1 ?_
    refine kd (v_pf hb1) ?_
    refine kd (v_as) ?_
    refine kops_nil ?_
    refine kn_then ?_
    refine kwp_ret ?_
    obtain rfl := e_some h
    refine r1 [] ?_
    exact ⟨rfl, rfl⟩

set_option maxRecDepth 20000 in
theorem w_impl_isWithin  {number0 : Int} {limit0 : Int} {r : Bool} (h : p_impl_isWithin number0 limit0 = some r) :
    Triple Tryd.prog 89 [.int .i64 number0, .int .i64 limit0] [] [] (fun v ch => v = .bool r ∧ ch = []) := by
  refine triple_start 14 Tryd.func89 Tryd.ntmps89 rfl rfl (fun w0 => ?_)
  unfold p_impl_isWithin at h
  refine kwp_seq ?_
  refine kwp_region ?_
  refine kd (v_as) ?_
  refine kops_nil ?_
  refine kn_then ?_
  refine kwp_seq ?_
  refine kwp_region ?_
  refine kd (v_mv) ?_
  refine kd (v_mv) ?_
  refine kd (v_neg) ?_
  refine kd (v_cmp) ?_
  refine kd (v_mv) ?_
  refine kops_split 9 rfl (fun hb1 => ?_) (fun hb1 => ?_)
  ·
    replace h := e_t h hb1
    refine kgd hb1 (v_mv) ?_
    refine kgd hb1 (v_mv) ?_
    refine kgd hb1 (v_cmp) ?_
    refine kd (v_pt hb1) ?_
    refine kd (v_as) ?_
    refine kops_nil ?_
    refine kn_then ?_
    refine kwp_ret ?_
    obtain rfl := e_some h
    refine r1 [] ?_
    exact ⟨rfl, rfl⟩
  ·
    replace h := e_f h hb1
    refine kskip hb1 ?_
    refine kskip hb1 ?_
    refine kskip hb1 ?_
    refine kd (v_pf hb1) ?_
    refine kd (v_as) ?_
    refine kops_nil ?_
    refine kn_then ?_
    refine kwp_ret ?_
    obtain rfl := e_some h
    refine r1 [] ?_
    exact ⟨rfl, rfl⟩

set_option maxRecDepth 20000 in
theorem w_spec_l1In  {n0 : Int} {low0 : Int} {high0 : Int} {r : Bool} (h : p_spec_l1In n0 low0 high0 = some r) :
    Triple Tryd.prog 60 [.int .i64 n0, .int .i64 low0, .int .i64 high0] [] [] (fun v ch => v = .bool r ∧ ch = []) := by
  refine triple_start 15 Tryd.func60 Tryd.ntmps60 rfl rfl (fun w0 => ?_)
  unfold p_spec_l1In at h
  refine kwp_seq ?_
  refine kwp_region ?_
  refine kd (v_as) ?_
  refine kops_nil ?_
  refine kn_then ?_
  refine kwp_seq ?_
  refine kwp_region ?_
  refine kd (v_mv) ?_
  refine kd (v_mv) ?_
  refine kd (v_cmp) ?_
  refine kd (v_mv) ?_
  refine kops_split 10 rfl (fun hb1 => ?_) (fun hb1 => ?_)
  ·
    replace h := e_t h hb1
    refine kgd hb1 (v_mv) ?_
    refine kgd hb1 (v_mv) ?_
    refine kgd hb1 (v_cmp) ?_
    refine kd (v_pt hb1) ?_
    refine kd (v_as) ?_
    refine kops_nil ?_
    refine kn_then ?_
    refine kwp_ret ?_
    obtain rfl := e_some h
    refine r1 [] ?_
    exact ⟨rfl, rfl⟩
  ·
    replace h := e_f h hb1
    refine kskip hb1 ?_
    refine kskip hb1 ?_
    refine kskip hb1 ?_
    refine kd (v_pf hb1) ?_
    refine kd (v_as) ?_
    refine kops_nil ?_
    refine kn_then ?_
    refine kwp_ret ?_
    obtain rfl := e_some h
    refine r1 [] ?_
    exact ⟨rfl, rfl⟩

end Go.Proofs.YtpfijnklnljccaaDoor
