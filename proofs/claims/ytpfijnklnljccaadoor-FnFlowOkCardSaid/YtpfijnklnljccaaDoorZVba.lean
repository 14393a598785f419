/- What the plain programs return, the functions of the program return; no condition. -/
import Derived.Test.YtpfijnklnljccaaDoorZQ
import Derived.Test.YtpfijnklnljccaaDoorZFa
import Derived.Test.YtpfijnklnljccaaDoorZVbp
import Derived.Test.YtpfijnklnljccaaDoorZVbd
import Derived.Test.YtpfijnklnljccaaDoorZVbk
namespace Go.Proofs.YtpfijnklnljccaaDoor
open Go
set_option linter.unusedVariables false
set_option linter.unusedSimpArgs false

set_option maxRecDepth 20000 in
theorem w_spec_l1Has (list0a : Option Addr) (list0n : Nat) (list0c : Nat) {list0 : List Int} {n0 : Int} {r : Bool} (h : p_spec_l1Has list0 n0 = some r) :
    Triple Tryd.prog 85 [.slice list0a list0n list0c, .int .i64 n0] [⟨.slice list0a list0n list0c, 1, list0.map encI⟩] [] (fun v ch => v = .bool r ∧ ch = []) := by
  refine triple_start 18 Tryd.func85 Tryd.ntmps85 rfl rfl (fun w0 => ?_)
  refine k_len (c := list0c) (fun hl1 => ?_)
  subst hl1
  unfold p_spec_l1Has at h
  refine kwp_seq ?_
  refine kwp_region ?_
  refine kd (v_as) ?_
  refine kops_nil ?_
  refine kn_then ?_
  refine kwp_seq ?_
  refine kwp_seq ?_
  refine kwp_region ?_
  refine kd (v_as) ?_
  refine kops_nil ?_
  refine kn_then ?_
  refine kwp_cutO (inv := []) (fun (z : Unit) (y : Unit) => []) (fun (z : Unit) (y : Unit) => []) (fun _ _ => True) h ?_ ?_
  · intro t4 h2 g3
    refine kwp_block ?_
    refine kwp_loopE (inv := [(0, .slice list0a list0.length list0c), (1, .int .i64 n0)]) (fun (z : Int) (y : Unit) => [(5, .int .i64 z)]) (fun (z : Int) (y : Unit) => []) (fun _ _ => True) h2 ⟨(), hd_mk trivial⟩ ?_
    intro k5 y9 b6 _ h7
    unfold p_spec_l1Has_L0 at h7
    refine kwp_seq ?_
    refine kwp_seq ?_
    refine kwp_region ?_
    refine kd (v_mv) ?_
    refine kd (v_mv) ?_
    refine kd (v_len Tryd.runUnderlying46) ?_
    refine kd (v_cmp) ?_
    refine kops_nil ?_
    refine kn_then ?_
    refine kwp_cond rfl (fun hc10 => ?_) (fun hc10 => ?_)
    ·
      replace h7 := e_t h7 hc10
      refine kwp_skip ?_
      refine kn_then ?_
      refine kwp_seq ?_
      refine kwp_block ?_
      refine kwp_seq ?_
      refine kwp_region ?_
      refine kd (v_mv) ?_
      refine kd (v_mv) ?_
      obtain ⟨j11, ej11, nj11, h7⟩ := e_idx h7
      refine kd (v_ia ej11 nj11 Tryd.runUnderlying46 Tryd.sizeOf3) ?_
      refine kd (v_ldf nj11 Tryd.isAgg3) ?_
      refine kd (v_mv) ?_
      refine kd (v_cmp) ?_
      refine kops_nil ?_
      refine kn_then ?_
      refine kwp_cond rfl (fun hc12 => ?_) (fun hc12 => ?_)
      ·
        replace h7 := e_t h7 hc12
        refine kwp_seq ?_
        refine kwp_region ?_
        refine kd (v_as) ?_
        refine kops_nil ?_
        refine kn_then ?_
        refine kwp_ret ?_
        refine kr_block ?_
        refine kr_then ?_
        refine kr_then ?_
        obtain rfl := e_some h7
        refine k_out ?_ rfl
        rintro rfl
        refine kr_block ?_
        refine kr_then ?_
        refine kr_then ?_
        obtain rfl := e_some g3
        refine r1 [] ?_
        exact ⟨rfl, rfl⟩
      ·
        replace h7 := e_f h7 hc12
        refine kwp_skip ?_
        refine kn_block ?_
        refine kn_then ?_
        refine kwp_region ?_
        refine kd (v_mv) ?_
        refine kd (v_add) ?_
        refine kd (v_as) ?_
        refine kops_nil ?_
        refine kn_then ?_
        obtain rfl := e_some h7
        exact ⟨_, (), rfl, hd_mk trivial⟩
    ·
      replace h7 := e_f h7 hc10
      refine kwp_exit ?_
      refine ke_then ?_
      obtain rfl := e_some h7
      refine k_out ?_ rfl
      rintro rfl
      refine ke_block ?_
      exact ⟨_, (), rfl, hd_mk trivial⟩
  · intro z13 y14 _ h15
    refine kn_then ?_
    refine kwp_seq ?_
    refine kwp_region ?_
    refine kd (v_as) ?_
    refine kops_nil ?_
    refine kn_then ?_
    refine kwp_ret ?_
    obtain rfl := e_some h15
    refine r1 [] ?_
    exact ⟨rfl, rfl⟩

end Go.Proofs.YtpfijnklnljccaaDoor
