/- What the plain programs return, the functions of the program return; no condition. -/
import Derived.Test.YtpfijnklnljccaaDoorZQ
import Derived.Test.YtpfijnklnljccaaDoorZFa
import Derived.Test.YtpfijnklnljccaaDoorZVbq
import Derived.Test.YtpfijnklnljccaaDoorZVba
namespace Go.Proofs.YtpfijnklnljccaaDoor
open Go
set_option linter.unusedVariables false
set_option linter.unusedSimpArgs false

set_option maxRecDepth 20000 in
theorem w_spec_LoopSteps (s01a : Option Addr) (s01n : Nat) (s01c : Nat) {s0 : Survey} {index0 : Int} {r : List Step × Bool} (h : p_spec_LoopSteps s0 index0 = some r) :
    Triple Tryd.prog 97 [.agg #[.int .i64 s0.st, .slice s01a s01n s01c], .int .i64 index0] [⟨.slice s01a s01n s01c, 5, s0.legs.map encLeg⟩] [] (fun v ch => ∃ (w0a : Option Addr) (w0c : Nat), v = .tuple #[.slice w0a r.1.length w0c, .bool r.2] ∧ ch = [⟨.slice w0a r.1.length w0c, 2, r.1.map encStep⟩]) := by
  refine triple_start 49 Tryd.func97 Tryd.ntmps97 rfl rfl (fun w0 => ?_)
  refine k_len (c := s01c) (fun hl1 => ?_)
  subst hl1
  unfold p_spec_LoopSteps at h
  refine kwp_seq ?_
  refine kwp_region ?_
  refine kk (n_box (e := [.int .i64 s0.st, .slice s01a s0.legs.length s01c]) 2 (fun p2_2 => ?_))
  refine kops_nilchunk 2 (by decide) ?_
  refine kd (v_as) ?_
  refine kd (v_as) ?_
  refine kops_nil ?_
  refine kn_then ?_
  refine kwp_seq ?_
  refine kwp_seq ?_
  refine kwp_cutE (inv := [(1, .int .i64 index0), (2, .pointer (some p2_2))]) (fun (z : Bool) (y : Unit) => [(25, .bool z)]) (fun (z : Bool) (y : Unit) => [⟨.pointer (some p2_2), 2, [[.int .i64 s0.st, .slice s01a s0.legs.length s01c]]⟩]) (fun _ _ => True) h ?_ ?_
  · intro t6 h4
    refine kwp_region ?_
    refine kd (v_ldB Tryd.isAgg53 Tryd.sizeOf53) ?_
    obtain ⟨v8, hv7, h4⟩ := e_bind h4
    refine kk (n_call Tryd.call98 (w_spec_SurveyValid s01a s0.legs.length s01c hv7) ?_)
    rintro _ _ ⟨rfl, rfl⟩
    refine kd (v_not) ?_
    refine kd (v_mv) ?_
    refine kops_split 11 rfl (fun hb10 => ?_) (fun hb10 => ?_)
    ·
      replace h4 := e_t h4 hb10
      refine kskip hb10 ?_
      refine kskip hb10 ?_
      refine kskip hb10 ?_
      refine kskip hb10 ?_
      refine kskip hb10 ?_
      refine kskip hb10 ?_
      refine kskip hb10 ?_
      refine kd (v_pt hb10) ?_
      refine kd (v_mv) ?_
      refine kskip rfl ?_
      refine kskip rfl ?_
      refine kskip rfl ?_
      refine kskip rfl ?_
      refine kd (v_pt rfl) ?_
      refine kops_nil ?_
      refine kn_then ?_
      obtain rfl := e_some h4
      exact ⟨(), hd_mk trivial⟩
    ·
      replace h4 := e_f h4 hb10
      refine kgd hb10 (v_mv) ?_
      refine kgd hb10 (v_fb fa_53_1) ?_
      refine kgd hb10 (v_ldb Tryd.isAgg51) ?_
      refine kgd hb10 (v_len Tryd.runUnderlying51) ?_
      refine kgd hb10 (v_sub) ?_
      obtain ⟨v12, hv11, h4⟩ := e_bind h4
      refine kgk hb10 (n_call Tryd.call60 (w_spec_l1In hv11) ?_)
      rintro _ _ ⟨rfl, rfl⟩
      refine kgd hb10 (v_not) ?_
      refine kd (v_pf hb10) ?_
      refine kd (v_mv) ?_
      refine kops_split 20 rfl (fun hb14 => ?_) (fun hb14 => ?_)
      ·
        replace h4 := e_t h4 hb14
        refine kskip hb14 ?_
        refine kskip hb14 ?_
        refine kskip hb14 ?_
        refine kskip hb14 ?_
        refine kd (v_pt hb14) ?_
        refine kops_nil ?_
        refine kn_then ?_
        obtain rfl := e_some h4
        exact ⟨(), hd_mk trivial⟩
      ·
        replace h4 := e_f h4 hb14
        refine kgd hb14 (v_ldB Tryd.isAgg53 Tryd.sizeOf53) ?_
        obtain ⟨v16, hv15, h4⟩ := e_bind h4
        refine kgk hb14 (n_call Tryd.call111 (w_spec_TreeLegs s01a s0.legs.length s01c hv15) ?_)
        rintro _ _ ⟨q17a, q17c, rfl, rfl⟩
        refine kgd hb14 (v_mv) ?_
        obtain ⟨v19, hv18, h4⟩ := e_bind h4
        refine kgk hb14 (n_call Tryd.call85 (w_spec_l1Has q17a v16.length q17c hv18) ?_)
        rintro _ _ ⟨rfl, rfl⟩
        refine kd (v_pf hb14) ?_
        refine kops_nil ?_
        refine kn_then ?_
        obtain rfl := e_some h4
        exact ⟨(), hd_mk trivial⟩
  · intro x3 y22 _ h23
    refine kn_then ?_
    refine kwp_cond rfl (fun hc24 => ?_) (fun hc24 => ?_)
    ·
      replace h23 := e_t h23 hc24
      refine kwp_seq ?_
      refine kwp_region ?_
      refine kk (n_lit (enc := encStep) [] ([] : List Step) Tryd.runUnderlying108 Tryd.sizeOf112 Tryd.zeroValue112 (fun a25 => ?_))
      refine kd (v_as) ?_
      refine kd (v_as) ?_
      refine kops_nil ?_
      refine kn_then ?_
      refine kwp_ret ?_
      refine kr_then ?_
      obtain rfl := e_some h23
      refine r2 [⟨.slice (some a25) 0 0, 2, ([] : List Step).map encStep⟩] ?_
      exact ⟨some a25, 0, rfl, rfl⟩
    ·
      replace h23 := e_f h23 hc24
      refine kwp_skip ?_
      refine kn_then ?_
      refine kwp_seq ?_
      obtain ⟨j26, ej26, nj26, h23⟩ := e_idx h23
      obtain ⟨⟨v28, v29⟩, hv27, h23⟩ := e_bind h23
      refine kwp_tree (.quiet 0 (.quiet 1 (.quiet 2 (.quiet 3 (.quiet 4 (.quiet 5 (.quiet 6 (.quiet 7 (.quiet 8 (.quiet 9 (.quiet 10 (.quiet 11 (.quiet 12 (.one 13 (.quiet 14 (.quiet 15 (.quiet 16 (.quiet 17 (.quiet 18 .stop))))))))))))))))))) [] [⟨.pointer (some p2_2), 2, [[.int .i64 s0.st, .slice s01a s0.legs.length s01c]]⟩] drawMixed (by kernel_rfl) nopan (by (repeat (first | exact Sub.refl _ | exact Sub.nil _ | refine Sub.chunk (by repeat (first | exact Pick.here | apply Pick.there | apply Pick.seg)) (by rfl) ?_ | refine Sub.seg (by repeat (first | exact PickSeg.here | exact PickSeg.all | apply PickSeg.there | apply PickSeg.seg)) ?_ | exact Sub.seg0 (by repeat (first | exact PickSeg.here | exact PickSeg.all | apply PickSeg.there | apply PickSeg.seg)) | apply Sub.assoc))) ?_
      refine kt_d rfl rfl rfl (v_ldB Tryd.isAgg53 Tryd.sizeOf53) ?_
      refine kt_d rfl rfl rfl (v_fb fa_53_1) ?_
      refine kt_d rfl rfl rfl (v_ldb Tryd.isAgg51) ?_
      refine kt_d rfl rfl rfl (v_mv) ?_
      refine kt_d rfl rfl rfl (v_ia ej26 nj26 Tryd.runUnderlying51 Tryd.sizeOf55) ?_
      refine kt_d rfl rfl rfl (v_fa nj26 fa_55_1) ?_
      refine kt_d rfl rfl rfl (v_ldf nj26 Tryd.isAgg3) ?_
      refine kt_d rfl rfl rfl (v_fb fa_53_1) ?_
      refine kt_d rfl rfl rfl (v_ldb Tryd.isAgg51) ?_
      refine kt_d rfl rfl rfl (v_mv) ?_
      refine kt_d rfl rfl rfl (v_ia ej26 nj26 Tryd.runUnderlying51 Tryd.sizeOf55) ?_
      refine kt_d rfl rfl rfl (v_fa nj26 fa_55_0) ?_
      refine kt_d rfl rfl rfl (v_ldf nj26 Tryd.isAgg3) ?_
      refine kt_one ?_
      refine kl_k rfl rfl (n_call Tryd.call96 (w_spec_TreeWay s01a s0.legs.length s01c hv27) ?_)
      rintro _ _ ⟨q30a, q30c, rfl, rfl⟩
      refine ⟨.inl (by (repeat (first | exact Sub.refl _ | exact Sub.nil _ | refine Sub.chunk (by repeat (first | exact Pick.here | apply Pick.there | apply Pick.seg)) (by rfl) ?_ | refine Sub.seg (by repeat (first | exact PickSeg.here | exact PickSeg.all | apply PickSeg.there | apply PickSeg.seg)) ?_ | exact Sub.seg0 (by repeat (first | exact PickSeg.here | exact PickSeg.all | apply PickSeg.there | apply PickSeg.seg)) | apply Sub.assoc))), ?_⟩
      refine kt_d rfl rfl rfl (v_mv) ?_
      refine kt_d rfl rfl rfl (v_ex) ?_
      refine kt_d rfl rfl rfl (v_ex) ?_
      refine kt_d rfl rfl rfl (v_as) ?_
      refine kt_d rfl rfl rfl (v_as) ?_
      refine kt_nil ?_
      refine kn_then ?_
      refine kwp_seq ?_
      refine kwp_region ?_
      refine kd (v_mv) ?_
      refine kd (v_bd [(0, _)] [_, .bool false] Tryd.zeroValue112 Tryd.runUnderlying112 pl_112) ?_
      refine kk (n_lit (enc := encStep) [_] ([(⟨index0, false⟩ : Step)] : List Step) Tryd.runUnderlying108 Tryd.sizeOf112 Tryd.zeroValue112 (fun a32 => ?_))
      refine kd (v_mv) ?_
      obtain ⟨hz33, h23⟩ := e_need h23
      refine kk (n_app (enc := encStep) ok_encStep hz33 Tryd.underlying108 Tryd.type112 (by decide) (fun a34 c35 => ?_))
      refine kd (v_as) ?_
      refine kd (v_as) ?_
      refine kops_nil ?_
      refine kn_then ?_
      refine kwp_ret ?_
      obtain rfl := e_some h23
      refine r2 [⟨.slice a34 ((([(⟨index0, false⟩ : Step)] : List Step) ++ v28).length) c35, 2, (([(⟨index0, false⟩ : Step)] : List Step) ++ v28).map encStep⟩] ?_
      exact ⟨a34, c35, rfl, rfl⟩

end Go.Proofs.YtpfijnklnljccaaDoor
