/- What the plain programs return, the functions of the program return; no condition. -/
import Derived.Test.YtnibfmofkamjoaaDoorQbk
import Derived.Test.YtnibfmofkamjoaaDoorFa
namespace Go.Proofs.YtnibfmofkamjoaaDoor
open Go
set_option linter.unusedVariables false
set_option linter.unusedSimpArgs false

set_option maxRecDepth 20000 in
theorem w_slices_Clone_int_int (s0a : Option Addr) (s0n : Nat) (s0c : Nat) {s0 : List Int} {r : List Int} (h : p_slices_Clone_int_int s0 = some r) :
    Triple Tryd.prog 126 [.slice s0a s0n s0c] [⟨.slice s0a s0n s0c, 1, s0.map encI⟩] [] (fun v ch => ∃ (w0a : Option Addr) (w0c : Nat), v = .slice w0a r.length w0c ∧ ch = [⟨.slice w0a r.length w0c, 1, r.map encI⟩]) := by
  refine triple_start 8 Tryd.func126 Tryd.ntmps126 rfl rfl (fun w0 => ?_)
  refine k_len (c := s0c) (fun hl1 => ?_)
  subst hl1
  unfold p_slices_Clone_int_int at h
  refine kwp_seq ?_
  refine kwp_region ?_
  refine kops_nilchunk 1 (by decide) ?_
  refine kd (v_as) ?_
  refine kops_nil ?_
  refine kn_then ?_
  refine kwp_seq ?_
  refine kwp_seq ?_
  refine kwp_region ?_
  refine kd (v_mv) ?_
  refine kd (v_eqn Tryd.runUnderlying26) ?_
  refine kops_nil ?_
  refine kn_then ?_
  refine kwp_cond rfl (fun hc2 => ?_) (fun hc2 => ?_)
  ·
    refine k_isnil (l := s0) hc2 (fun hl3 => ?_)
    subst hl3
    replace h : some ([] : List Int) = some _ := (e_need h).2
    refine kwp_seq ?_
    refine kwp_region ?_
    refine kops_nilchunk 1 (by decide) ?_
    refine kd (v_as) ?_
    refine kops_nil ?_
    refine kn_then ?_
    refine kwp_ret ?_
    refine kr_then ?_
    obtain rfl := e_some h
    refine r1 [⟨.slice none 0 0, 1, ([] : List Int).map encI⟩] ?_
    exact ⟨none, 0, rfl, rfl⟩
  ·
    refine kwp_skip ?_
    refine kn_then ?_
    refine kwp_seq ?_
    refine kwp_region ?_
    refine kk (n_lit (enc := encI) [] ([] : List Int) Tryd.runUnderlying26 Tryd.sizeOf3 Tryd.zeroValue3 (fun a4 => ?_))
    refine kd (v_mv) ?_
    obtain ⟨hz5, h⟩ := e_need h
    refine kk (n_app (enc := encI) ok_encI hz5 Tryd.underlying26 Tryd.type3 (by decide) (fun a6 c7 => ?_))
    refine kd (v_as) ?_
    refine kops_nil ?_
    refine kn_then ?_
    refine kwp_ret ?_
    obtain rfl := e_some h
    refine r1 [⟨.slice a6 ((([] : List Int) ++ s0).length) c7, 1, (([] : List Int) ++ s0).map encI⟩] ?_
    exact ⟨a6, c7, rfl, rfl⟩

set_option maxRecDepth 20000 in
theorem w_slices_Clone_impl_Leg_impl_Leg (s0a : Option Addr) (s0n : Nat) (s0c : Nat) {s0 : List Leg} {r : List Leg} (h : p_slices_Clone_impl_Leg_impl_Leg s0 = some r) :
    Triple Tryd.prog 91 [.slice s0a s0n s0c] [⟨.slice s0a s0n s0c, 5, s0.map encLeg⟩] [] (fun v ch => ∃ (w0a : Option Addr) (w0c : Nat), v = .slice w0a r.length w0c ∧ ch = [⟨.slice w0a r.length w0c, 5, r.map encLeg⟩]) := by
  refine triple_start 8 Tryd.func91 Tryd.ntmps91 rfl rfl (fun w0 => ?_)
  refine k_len (c := s0c) (fun hl1 => ?_)
  subst hl1
  unfold p_slices_Clone_impl_Leg_impl_Leg at h
  refine kwp_seq ?_
  refine kwp_region ?_
  refine kops_nilchunk 5 (by decide) ?_
  refine kd (v_as) ?_
  refine kops_nil ?_
  refine kn_then ?_
  refine kwp_seq ?_
  refine kwp_seq ?_
  refine kwp_region ?_
  refine kd (v_mv) ?_
  refine kd (v_eqn Tryd.runUnderlying23) ?_
  refine kops_nil ?_
  refine kn_then ?_
  refine kwp_cond rfl (fun hc2 => ?_) (fun hc2 => ?_)
  ·
    refine k_isnil (l := s0) hc2 (fun hl3 => ?_)
    subst hl3
    replace h : some ([] : List Leg) = some _ := (e_need h).2
    refine kwp_seq ?_
    refine kwp_region ?_
    refine kops_nilchunk 5 (by decide) ?_
    refine kd (v_as) ?_
    refine kops_nil ?_
    refine kn_then ?_
    refine kwp_ret ?_
    refine kr_then ?_
    obtain rfl := e_some h
    refine r1 [⟨.slice none 0 0, 5, ([] : List Leg).map encLeg⟩] ?_
    exact ⟨none, 0, rfl, rfl⟩
  ·
    refine kwp_skip ?_
    refine kn_then ?_
    refine kwp_seq ?_
    refine kwp_region ?_
    refine kk (n_lit (enc := encLeg) [] ([] : List Leg) Tryd.runUnderlying23 Tryd.sizeOf48 Tryd.zeroValue48 (fun a4 => ?_))
    refine kd (v_mv) ?_
    obtain ⟨hz5, h⟩ := e_need h
    refine kk (n_app (enc := encLeg) ok_encLeg hz5 Tryd.underlying23 Tryd.type48 (by decide) (fun a6 c7 => ?_))
    refine kd (v_as) ?_
    refine kops_nil ?_
    refine kn_then ?_
    refine kwp_ret ?_
    obtain rfl := e_some h
    refine r1 [⟨.slice a6 ((([] : List Leg) ++ s0).length) c7, 5, (([] : List Leg) ++ s0).map encLeg⟩] ?_
    exact ⟨a6, c7, rfl, rfl⟩

set_option maxRecDepth 20000 in
theorem w_slices_Delete_impl_Leg_impl_Leg (s0a : Option Addr) (s0n : Nat) (s0c : Nat) {s0 : List Leg} {i0 : Int} {j0 : Int} {r : List Leg} (h : p_slices_Delete_impl_Leg_impl_Leg s0 i0 j0 = some r) :
    Triple Tryd.prog 90 [.slice s0a s0n s0c, .int .i64 i0, .int .i64 j0] [] [⟨.slice s0a s0n s0c, 5, s0.map encLeg⟩] (fun v ch => ∃ (w0a : Option Addr) (w0c : Nat), v = .slice w0a r.length w0c ∧ ch = [⟨.slice w0a r.length w0c, 5, r.map encLeg⟩]) := by
  refine triple_start 33 Tryd.func90 Tryd.ntmps90 rfl rfl (fun w0 => ?_)
  refine k_len (c := s0c) (fun hl1 => ?_)
  subst hl1
  unfold p_slices_Delete_impl_Leg_impl_Leg at h
  refine kwp_seq ?_
  refine kwp_region ?_
  refine kops_nilchunk 5 (by decide) ?_
  refine kd (v_as) ?_
  refine kops_nil ?_
  refine kn_then ?_
  refine kwp_seq ?_
  obtain ⟨j2, j3, ej2, ej3, oj2, oj3, h⟩ := e_cut h
  refine kwp_region ?_
  refine kd (v_mv) ?_
  refine kd (v_mv) ?_
  refine kd (v_mv) ?_
  refine kd (v_mv) ?_
  refine kd (v_len Tryd.runUnderlying23) ?_
  refine kd (v_sl3 oj2 oj3 Tryd.runUnderlying23 Tryd.sizeOf48 ej2 ej3) ?_
  refine kops_nil ?_
  refine kn_then ?_
  refine kwp_seq ?_
  refine kwp_seq ?_
  refine kwp_region ?_
  refine kd (v_mv) ?_
  refine kd (v_mv) ?_
  refine kd (v_cmp) ?_
  refine kops_nil ?_
  refine kn_then ?_
  refine kwp_cond rfl (fun hc4 => ?_) (fun hc4 => ?_)
  ·
    replace h := e_t h hc4
    refine kwp_seq ?_
    refine kwp_region ?_
    refine kd (v_mv) ?_
    refine kd (v_as) ?_
    refine kops_nil ?_
    refine kn_then ?_
    refine kwp_ret ?_
    refine kr_then ?_
    obtain rfl := e_some h
    refine r1 [⟨.slice s0a (s0.length) s0c, 5, s0.map encLeg⟩] ?_
    exact ⟨s0a, s0c, rfl, rfl⟩
  ·
    replace h := e_f h hc4
    refine kwp_skip ?_
    refine kn_then ?_
    refine kwp_seq ?_
    refine kwp_region ?_
    refine kd (v_mv) ?_
    refine kd (v_len Tryd.runUnderlying23) ?_
    refine kd (v_as) ?_
    refine kops_nil ?_
    refine kn_then ?_
    refine kwp_seq ?_
    obtain ⟨j5, j6, ej5, ej6, oj5, oj6, h⟩ := e_cut h
    obtain ⟨j7, j8, ej7, ej8, oj7, oj8, h⟩ := e_cut h
    refine kwp_tree (.quiet 0 (.quiet 1 (.quiet 2 (.quiet 3 (.quiet 4 (.quiet 5 (.one 6 (.one 7 .stop)))))))) [6, 7] [⟨.slice s0a (s0.length) s0c, 5, s0.map encLeg⟩] drawMixed (by kernel_rfl) nopan (by (repeat (first | exact Sub.refl _ | exact Sub.nil _ | refine Sub.chunk (by repeat (first | exact Pick.here | apply Pick.there | apply Pick.seg)) (by rfl) ?_ | refine Sub.seg (by repeat (first | exact PickSeg.here | exact PickSeg.all | apply PickSeg.there | apply PickSeg.seg)) ?_ | exact Sub.seg0 (by repeat (first | exact PickSeg.here | exact PickSeg.all | apply PickSeg.there | apply PickSeg.seg)) | apply Sub.assoc))) ?_
    refine kt_d rfl rfl rfl (v_mv) ?_
    refine kt_d rfl rfl rfl (v_mv) ?_
    refine kt_d rfl rfl rfl (v_sl (l := j5) (h := j6) oj5 oj6 Tryd.runUnderlying23 Tryd.sizeOf48 (hlo := by show _ = 0; omega) (hhi := by exact ⟨_, _, rfl, ej6⟩)) ?_
    refine kt_d rfl rfl rfl (v_mv) ?_
    refine kt_d rfl rfl rfl (v_mv) ?_
    refine kt_d rfl rfl rfl (v_sl (l := j7) (h := j8) oj7 oj8 Tryd.runUnderlying23 Tryd.sizeOf48 (hlo := by exact ⟨_, _, rfl, ej7⟩) (hhi := by show _ = _; omega)) ?_
    refine kt_one ?_
    refine kl_k rfl rfl (n_del (enc := encLeg) (q := j5) (p := j6) (j := j7) (k := j8) (n := s0.length) (a := s0a) (c := s0c) (L := s0) (by omega) (by have q_ := hc4; rw [beq_eq_false_iff_ne] at q_; omega) oj7 (by omega) ok_encLeg Tryd.underlying23 Tryd.type48 (fun a9 c10 hn11 => ?_))
    refine ⟨.inr ⟨by decide, rfl⟩, ?_⟩
    refine kt_one ?_
    refine kl_df rfl rfl rfl (by decide) rfl (v_as) ?_
    refine kt_nil ?_
    refine kn_then ?_
    refine kwp_seq ?_
    refine kwp_region ?_
    refine kd (v_mv) ?_
    refine kd (v_mv) ?_
    refine kd (v_len Tryd.runUnderlying23) ?_
    refine kd (v_mv) ?_
    refine kd (v_slc (l := (s0.take j6 ++ s0.drop j7).length) (h := s0.length) (by simp only [List.length_append, List.length_take, List.length_drop]; omega) hn11 Tryd.runUnderlying23 Tryd.sizeOf48) ?_
    refine kk (n_clear (enc := encLeg) (L := (s0.take j6 ++ s0.drop j7)) (h := s0.length) (by simp only [List.length_append, List.length_take, List.length_drop]; omega) hn11 Tryd.runUnderlying23 Tryd.zeroValue48 ?_)
    refine kops_nil ?_
    refine kn_then ?_
    refine kwp_seq ?_
    refine kwp_region ?_
    refine kd (v_mv) ?_
    refine kd (v_as) ?_
    refine kops_nil ?_
    refine kn_then ?_
    refine kwp_ret ?_
    obtain rfl := e_some h
    refine r1 [⟨.slice a9 ((s0.take j6 ++ s0.drop j7).length) c10, 5, (s0.take j6 ++ s0.drop j7).map encLeg⟩] ?_
    exact ⟨a9, c10, rfl, rfl⟩

end Go.Proofs.YtnibfmofkamjoaaDoor
