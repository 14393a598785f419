/- What the plain programs return, the functions of the program return; no condition. -/
import Derived.Test.YtpfijnklnljccaaDoorZQ
import Derived.Test.YtpfijnklnljccaaDoorZFa
import Derived.Test.YtpfijnklnljccaaDoorZVbv
import Derived.Test.YtpfijnklnljccaaDoorZKw
namespace Go.Proofs.YtpfijnklnljccaaDoor
open Go
set_option linter.unusedVariables false
set_option linter.unusedSimpArgs false

set_option maxRecDepth 20000 in
theorem w_impl_wayText  {wy0 : Way} {r : ByteArray} (h : p_impl_wayText wy0 = some r) :
    Triple Tryd.prog 92 [.agg #[.int .i64 wy0.e, .int .i64 wy0.n, .int .i64 wy0.u]] [tabC] [] (fun v ch => v = .string r ∧ ch = []) := by
  refine triple_start 16 Tryd.func92 Tryd.ntmps92 rfl rfl (fun w0 => ?_)
  unfold p_impl_wayText at h
  refine kwp_seq ?_
  refine kwp_region ?_
  refine kk (n_box (e := [.int .i64 wy0.e, .int .i64 wy0.n, .int .i64 wy0.u]) 3 (fun p1_1 => ?_))
  refine kd (v_as) ?_
  refine kops_nil ?_
  refine kn_then ?_
  refine kwp_seq ?_
  obtain ⟨v3, hv2, h⟩ := e_bind h
  obtain ⟨hz5, h⟩ := e_need h
  obtain ⟨v7, hv6, h⟩ := e_bind h
  obtain ⟨hz9, h⟩ := e_need h
  obtain ⟨hz10, h⟩ := e_need h
  obtain ⟨v12, hv11, h⟩ := e_bind h
  obtain ⟨hz14, h⟩ := e_need h
  refine kwp_tree (.quiet 0 (.quiet 1 (.quiet 4 (.quiet 5 (.quiet 9 (.quiet 10 (.one 2 (.quiet 3 (.one 6 (.quiet 7 (.quiet 8 (.one 11 (.quiet 12 (.quiet 13 .stop)))))))))))))) [] [⟨.pointer (some p1_1), 3, [[.int .i64 wy0.e, .int .i64 wy0.n, .int .i64 wy0.u]]⟩] drawMixed (by kernel_rfl) nopan (by (repeat (first | exact Sub.refl _ | exact Sub.nil _ | refine Sub.chunk (by repeat (first | exact Pick.here | apply Pick.there | apply Pick.seg)) (by rfl) ?_ | refine Sub.seg (by repeat (first | exact PickSeg.here | exact PickSeg.all | apply PickSeg.there | apply PickSeg.seg)) ?_ | exact Sub.seg0 (by repeat (first | exact PickSeg.here | exact PickSeg.all | apply PickSeg.there | apply PickSeg.seg)) | apply Sub.assoc))) ?_
  refine kt_d rfl rfl rfl (v_fb fa_105_0) ?_
  refine kt_d rfl rfl rfl (v_ldb Tryd.isAgg3) ?_
  refine kt_d rfl rfl rfl (v_fb fa_105_1) ?_
  refine kt_d rfl rfl rfl (v_ldb Tryd.isAgg3) ?_
  refine kt_d rfl rfl rfl (v_fb fa_105_2) ?_
  refine kt_d rfl rfl rfl (v_ldb Tryd.isAgg3) ?_
  refine kt_one ?_
  refine kl_k rfl rfl (n_call Tryd.call91 (w_strconv_Itoa hv2) ?_)
  rintro _ _ ⟨rfl, rfl⟩
  refine ⟨.inl (by (repeat (first | exact Sub.refl _ | exact Sub.nil _ | refine Sub.chunk (by repeat (first | exact Pick.here | apply Pick.there | apply Pick.seg)) (by rfl) ?_ | refine Sub.seg (by repeat (first | exact PickSeg.here | exact PickSeg.all | apply PickSeg.there | apply PickSeg.seg)) ?_ | exact Sub.seg0 (by repeat (first | exact PickSeg.here | exact PickSeg.all | apply PickSeg.there | apply PickSeg.seg)) | apply Sub.assoc))), ?_⟩
  refine kt_d rfl rfl rfl (v_adds hz5) ?_
  refine kt_one ?_
  refine kl_k rfl rfl (n_call Tryd.call91 (w_strconv_Itoa hv6) ?_)
  rintro _ _ ⟨rfl, rfl⟩
  refine ⟨.inl (by (repeat (first | exact Sub.refl _ | exact Sub.nil _ | refine Sub.chunk (by repeat (first | exact Pick.here | apply Pick.there | apply Pick.seg)) (by rfl) ?_ | refine Sub.seg (by repeat (first | exact PickSeg.here | exact PickSeg.all | apply PickSeg.there | apply PickSeg.seg)) ?_ | exact Sub.seg0 (by repeat (first | exact PickSeg.here | exact PickSeg.all | apply PickSeg.there | apply PickSeg.seg)) | apply Sub.assoc))), ?_⟩
  refine kt_d rfl rfl rfl (v_adds hz9) ?_
  refine kt_d rfl rfl rfl (v_adds hz10) ?_
  refine kt_one ?_
  refine kl_k rfl rfl (n_call Tryd.call91 (w_strconv_Itoa hv11) ?_)
  rintro _ _ ⟨rfl, rfl⟩
  refine ⟨.inl (by (repeat (first | exact Sub.refl _ | exact Sub.nil _ | refine Sub.chunk (by repeat (first | exact Pick.here | apply Pick.there | apply Pick.seg)) (by rfl) ?_ | refine Sub.seg (by repeat (first | exact PickSeg.here | exact PickSeg.all | apply PickSeg.there | apply PickSeg.seg)) ?_ | exact Sub.seg0 (by repeat (first | exact PickSeg.here | exact PickSeg.all | apply PickSeg.there | apply PickSeg.seg)) | apply Sub.assoc))), ?_⟩
  refine kt_d rfl rfl rfl (v_adds hz14) ?_
  refine kt_d rfl rfl rfl (v_as) ?_
  refine kt_nil ?_
  refine kn_then ?_
  refine kwp_ret ?_
  obtain rfl := e_some h
  refine r1 [] ?_
  exact ⟨rfl, rfl⟩

set_option maxRecDepth 20000 in
theorem w_impl_LegText  {g0 : Leg} {r : ByteArray} (h : p_impl_LegText g0 = some r) :
    Triple Tryd.prog 61 [.agg #[.int .i64 g0.f, .int .i64 g0.t, .int .i64 g0.e, .int .i64 g0.n, .int .i64 g0.u]] [tabC] [] (fun v ch => v = .string r ∧ ch = []) := by
  refine triple_start 19 Tryd.func61 Tryd.ntmps61 rfl rfl (fun w0 => ?_)
  unfold p_impl_LegText at h
  refine kwp_seq ?_
  refine kwp_region ?_
  refine kk (n_box (e := [.int .i64 g0.f, .int .i64 g0.t, .int .i64 g0.e, .int .i64 g0.n, .int .i64 g0.u]) 5 (fun p1_1 => ?_))
  refine kd (v_as) ?_
  refine kops_nil ?_
  refine kn_then ?_
  refine kwp_seq ?_
  refine kwp_seq ?_
  refine kwp_region ?_
  refine kd (v_ldB Tryd.isAgg55 Tryd.sizeOf55) ?_
  obtain ⟨v3, hv2, h⟩ := e_bind h
  refine kk (n_call Tryd.call90 (w_impl_LegValid hv2) ?_)
  rintro _ _ ⟨rfl, rfl⟩
  refine kd (v_not) ?_
  refine kops_nil ?_
  refine kn_then ?_
  refine kwp_cond rfl (fun hc5 => ?_) (fun hc5 => ?_)
  ·
    replace h := e_t h hc5
    refine kwp_seq ?_
    refine kwp_region ?_
    refine kd (v_as) ?_
    refine kops_nil ?_
    refine kn_then ?_
    refine kwp_ret ?_
    refine kr_then ?_
    obtain rfl := e_some h
    refine r1 [] ?_
    exact ⟨rfl, rfl⟩
  ·
    replace h := e_f h hc5
    refine kwp_skip ?_
    refine kn_then ?_
    refine kwp_seq ?_
    obtain ⟨v7, hv6, h⟩ := e_bind h
    obtain ⟨hz9, h⟩ := e_need h
    obtain ⟨v11, hv10, h⟩ := e_bind h
    obtain ⟨hz13, h⟩ := e_need h
    obtain ⟨hz14, h⟩ := e_need h
    obtain ⟨v16, hv15, h⟩ := e_bind h
    obtain ⟨v19, hv18, h⟩ := e_bind h
    obtain ⟨hz21, h⟩ := e_need h
    refine kwp_tree (.quiet 0 (.quiet 1 (.quiet 4 (.quiet 5 (.quiet 9 (.one 2 (.quiet 3 (.one 6 (.quiet 7 (.quiet 8 (.one 10 (.one 11 (.quiet 12 (.quiet 13 .stop)))))))))))))) [] [⟨.pointer (some p1_1), 5, [[.int .i64 g0.f, .int .i64 g0.t, .int .i64 g0.e, .int .i64 g0.n, .int .i64 g0.u]]⟩] drawMixed (by kernel_rfl) nopan (by (repeat (first | exact Sub.refl _ | exact Sub.nil _ | refine Sub.chunk (by repeat (first | exact Pick.here | apply Pick.there | apply Pick.seg)) (by rfl) ?_ | refine Sub.seg (by repeat (first | exact PickSeg.here | exact PickSeg.all | apply PickSeg.there | apply PickSeg.seg)) ?_ | exact Sub.seg0 (by repeat (first | exact PickSeg.here | exact PickSeg.all | apply PickSeg.there | apply PickSeg.seg)) | apply Sub.assoc))) ?_
    refine kt_d rfl rfl rfl (v_fb fa_55_0) ?_
    refine kt_d rfl rfl rfl (v_ldb Tryd.isAgg3) ?_
    refine kt_d rfl rfl rfl (v_fb fa_55_1) ?_
    refine kt_d rfl rfl rfl (v_ldb Tryd.isAgg3) ?_
    refine kt_d rfl rfl rfl (v_ldB Tryd.isAgg55 Tryd.sizeOf55) ?_
    refine kt_one ?_
    refine kl_k rfl rfl (n_call Tryd.call91 (w_strconv_Itoa hv6) ?_)
    rintro _ _ ⟨rfl, rfl⟩
    refine ⟨.inl (by (repeat (first | exact Sub.refl _ | exact Sub.nil _ | refine Sub.chunk (by repeat (first | exact Pick.here | apply Pick.there | apply Pick.seg)) (by rfl) ?_ | refine Sub.seg (by repeat (first | exact PickSeg.here | exact PickSeg.all | apply PickSeg.there | apply PickSeg.seg)) ?_ | exact Sub.seg0 (by repeat (first | exact PickSeg.here | exact PickSeg.all | apply PickSeg.there | apply PickSeg.seg)) | apply Sub.assoc))), ?_⟩
    refine kt_d rfl rfl rfl (v_adds hz9) ?_
    refine kt_one ?_
    refine kl_k rfl rfl (n_call Tryd.call91 (w_strconv_Itoa hv10) ?_)
    rintro _ _ ⟨rfl, rfl⟩
    refine ⟨.inl (by (repeat (first | exact Sub.refl _ | exact Sub.nil _ | refine Sub.chunk (by repeat (first | exact Pick.here | apply Pick.there | apply Pick.seg)) (by rfl) ?_ | refine Sub.seg (by repeat (first | exact PickSeg.here | exact PickSeg.all | apply PickSeg.there | apply PickSeg.seg)) ?_ | exact Sub.seg0 (by repeat (first | exact PickSeg.here | exact PickSeg.all | apply PickSeg.there | apply PickSeg.seg)) | apply Sub.assoc))), ?_⟩
    refine kt_d rfl rfl rfl (v_adds hz13) ?_
    refine kt_d rfl rfl rfl (v_adds hz14) ?_
    refine kt_one ?_
    refine kl_k rfl rfl (n_call Tryd.call93 (w_impl_legWay hv15) ?_)
    rintro _ _ ⟨rfl, rfl⟩
    refine ⟨.inl (by (repeat (first | exact Sub.refl _ | exact Sub.nil _ | refine Sub.chunk (by repeat (first | exact Pick.here | apply Pick.there | apply Pick.seg)) (by rfl) ?_ | refine Sub.seg (by repeat (first | exact PickSeg.here | exact PickSeg.all | apply PickSeg.there | apply PickSeg.seg)) ?_ | exact Sub.seg0 (by repeat (first | exact PickSeg.here | exact PickSeg.all | apply PickSeg.there | apply PickSeg.seg)) | apply Sub.assoc))), ?_⟩
    refine kt_one ?_
    refine kl_k rfl rfl (n_call Tryd.call92 (w_impl_wayText hv18) ?_)
    rintro _ _ ⟨rfl, rfl⟩
    refine ⟨.inl (by (repeat (first | exact Sub.refl _ | exact Sub.nil _ | refine Sub.chunk (by repeat (first | exact Pick.here | apply Pick.there | apply Pick.seg)) (by rfl) ?_ | refine Sub.seg (by repeat (first | exact PickSeg.here | exact PickSeg.all | apply PickSeg.there | apply PickSeg.seg)) ?_ | exact Sub.seg0 (by repeat (first | exact PickSeg.here | exact PickSeg.all | apply PickSeg.there | apply PickSeg.seg)) | apply Sub.assoc))), ?_⟩
    refine kt_d rfl rfl rfl (v_adds hz21) ?_
    refine kt_d rfl rfl rfl (v_as) ?_
    refine kt_nil ?_
    refine kn_then ?_
    refine kwp_ret ?_
    obtain rfl := e_some h
    refine r1 [] ?_
    exact ⟨rfl, rfl⟩

set_option maxRecDepth 20000 in
theorem w_laws_alive   {r : Bool} (h : p_laws_alive  = some r) :
    Triple Tryd.prog 18 [] [tabC] [] (fun v ch => v = .bool r ∧ ch = []) := by
  refine triple_start 9 Tryd.func18 Tryd.ntmps18 rfl rfl (fun w0 => ?_)
  unfold p_laws_alive at h
  refine kwp_seq ?_
  refine kwp_region ?_
  refine kd (v_as) ?_
  refine kops_nil ?_
  refine kn_then ?_
  refine kwp_seq ?_
  refine kwp_region ?_
  refine kd (v_bd [(0, _), (1, _), (2, _), (3, _), (4, _)] [_, _, _, _, _] Tryd.zeroValue55 Tryd.runUnderlying55 pl_55) ?_
  obtain ⟨v2, hv1, h⟩ := e_bind h
  refine kk (n_call Tryd.call61 (w_impl_LegText hv1) ?_)
  rintro _ _ ⟨rfl, rfl⟩
  refine kd (v_eqs) ?_
  refine kd (v_mv) ?_
  refine kops_split 4 rfl (fun hb4 => ?_) (fun hb4 => ?_)
  ·
    replace h := e_t h hb4
    refine kgd hb4 (v_bd [] [.int .i64 0, .int .i64 0, .int .i64 0, .int .i64 0, .int .i64 0] Tryd.zeroValue55 Tryd.runUnderlying55 pl_55) ?_
    obtain ⟨v6, hv5, h⟩ := e_bind h
    refine kgk hb4 (n_call Tryd.call61 (w_impl_LegText hv5) ?_)
    rintro _ _ ⟨rfl, rfl⟩
    refine kgd hb4 (v_eqs) ?_
    refine kd (v_pt hb4) ?_
    refine kd (v_as) ?_
    refine kops_nil ?_
    refine kn_then ?_
    refine kwp_ret ?_
    obtain rfl := e_some h
    refine r1 [] ?_
    exact ⟨rfl, rfl⟩
  ·
    replace h := e_f h hb4
    refine kskip hb4 ?_
    refine kskip hb4 ?_
    refine kskip hb4 ?_
    refine kd (v_pf hb4) ?_
    refine kd (v_as) ?_
    refine kops_nil ?_
    refine kn_then ?_
    refine kwp_ret ?_
    obtain rfl := e_some h
    refine r1 [] ?_
    exact ⟨rfl, rfl⟩

end Go.Proofs.YtpfijnklnljccaaDoor
