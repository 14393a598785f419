/- What the plain programs return, the functions of the program return; no condition. -/
import Derived.Test.YtpfijnklnljccaaDoorZQ
import Derived.Test.YtpfijnklnljccaaDoorZFa
namespace Go.Proofs.YtpfijnklnljccaaDoor
open Go
set_option linter.unusedVariables false
set_option linter.unusedSimpArgs false

set_option maxRecDepth 20000 in
theorem w_slices_Clone_int_int (s0a : Option Addr) (s0n : Nat) (s0c : Nat) {s0 : List Int} {r : List Int} (h : p_slices_Clone_int_int s0 = some r) :
    Triple Tryd.prog 116 [.slice s0a s0n s0c] [⟨.slice s0a s0n s0c, 1, s0.map encI⟩] [] (fun v ch => ∃ (w0a : Option Addr) (w0c : Nat), v = .slice w0a r.length w0c ∧ ch = [⟨.slice w0a r.length w0c, 1, r.map encI⟩]) := by
  refine triple_start 8 Tryd.func116 Tryd.ntmps116 rfl rfl (fun w0 => ?_)
  refine k_len (c := s0c) (fun hl1 => ?_)
  subst hl1
  unfold p_slices_Clone_int_int at h
  refine kwp_seq ?_
  refine kwp_region ?_
  refine kops_nilchunk 1 (by decide) ?_
  refine kd (v_as) ?_
  refine kops_nil ?_
  refine kn_then ?_
  refine kwp_seq ?_
  refine kwp_seq ?_
  refine kwp_region ?_
  refine kd (v_mv) ?_
  refine kd (v_eqn Tryd.runUnderlying46) ?_
  refine kops_nil ?_
  refine kn_then ?_
  refine kwp_cond rfl (fun hc2 => ?_) (fun hc2 => ?_)
  ·
    refine k_isnil (l := s0) hc2 (fun hl3 => ?_)
    subst hl3
    replace h : some ([] : List Int) = some _ := (e_need h).2
    refine kwp_seq ?_
    refine kwp_region ?_
    refine kops_nilchunk 1 (by decide) ?_
    refine kd (v_as) ?_
    refine kops_nil ?_
    refine kn_then ?_
    refine kwp_ret ?_
    refine kr_then ?_
    obtain rfl := e_some h
    refine r1 [⟨.slice none 0 0, 1, ([] : List Int).map encI⟩] ?_
    exact ⟨none, 0, rfl, rfl⟩
  ·
    refine kwp_skip ?_
    refine kn_then ?_
    refine kwp_seq ?_
    refine kwp_region ?_
    refine kk (n_lit (enc := encI) [] ([] : List Int) Tryd.runUnderlying46 Tryd.sizeOf3 Tryd.zeroValue3 (fun a4 => ?_))
    refine kd (v_mv) ?_
    obtain ⟨hz5, h⟩ := e_need h
    refine kk (n_app (enc := encI) ok_encI hz5 Tryd.underlying46 Tryd.type3 (by decide) (fun a6 c7 => ?_))
    refine kd (v_as) ?_
    refine kops_nil ?_
    refine kn_then ?_
    refine kwp_ret ?_
    obtain rfl := e_some h
    refine r1 [⟨.slice a6 ((([] : List Int) ++ s0).length) c7, 1, (([] : List Int) ++ s0).map encI⟩] ?_
    exact ⟨a6, c7, rfl, rfl⟩

end Go.Proofs.YtpfijnklnljccaaDoor
