/- What the plain programs return, the functions of the program return; no condition. -/
import Derived.Test.YtnibfmofkamjoaaDoorQbn
import Derived.Test.YtnibfmofkamjoaaDoorFa
import Derived.Test.YtnibfmofkamjoaaDoorVbl
import Derived.Test.YtnibfmofkamjoaaDoorVba
import Derived.Test.YtnibfmofkamjoaaDoorVbk
namespace Go.Proofs.YtnibfmofkamjoaaDoor
open Go
set_option linter.unusedVariables false
set_option linter.unusedSimpArgs false

set_option maxRecDepth 20000 in
theorem w_impl_TreesWith (s01a : Option Addr) (s01n : Nat) (s01c : Nat) {s0 : Survey} {index0 : Int} {r : Int} (h : p_impl_TreesWith s0 index0 = some r) :
    Triple Tryd.prog 42 [.agg #[.int .i64 s0.st, .slice s01a s01n s01c], .int .i64 index0] [⟨.slice s01a s01n s01c, 5, s0.legs.map encLeg⟩] [] (fun v ch => v = .int .i64 r ∧ ch = []) := by
  refine triple_start 32 Tryd.func42 Tryd.ntmps42 rfl rfl (fun w0 => ?_)
  refine k_len (c := s01c) (fun hl1 => ?_)
  subst hl1
  unfold p_impl_TreesWith at h
  refine kwp_seq ?_
  refine kwp_region ?_
  refine kk (n_box (e := [.int .i64 s0.st, .slice s01a s0.legs.length s01c]) 2 (fun p2_2 => ?_))
  refine kd (v_as) ?_
  refine kops_nil ?_
  refine kn_then ?_
  refine kwp_seq ?_
  refine kwp_seq ?_
  refine kwp_cutE (inv := [(1, .int .i64 index0), (2, .pointer (some p2_2))]) (fun (z : Bool) (y : Unit) => [(16, .bool z)]) (fun (z : Bool) (y : Unit) => [⟨.pointer (some p2_2), 2, [[.int .i64 s0.st, .slice s01a s0.legs.length s01c]]⟩]) (fun _ _ => True) h ?_ ?_
  · intro t6 h4
    refine kwp_region ?_
    refine kd (v_ldB Tryd.isAgg25 Tryd.sizeOf25) ?_
    obtain ⟨v8, hv7, h4⟩ := e_bind h4
    refine kk (n_call Tryd.call29 (w_impl_SurveyValid s01a s0.legs.length s01c hv7) ?_)
    rintro _ _ ⟨rfl, rfl⟩
    refine kd (v_not) ?_
    refine kd (v_mv) ?_
    refine kops_split 9 rfl (fun hb10 => ?_) (fun hb10 => ?_)
    ·
      replace h4 := e_t h4 hb10
      refine kskip hb10 ?_
      refine kskip hb10 ?_
      refine kskip hb10 ?_
      refine kskip hb10 ?_
      refine kskip hb10 ?_
      refine kskip hb10 ?_
      refine kd (v_pt hb10) ?_
      refine kops_nil ?_
      refine kn_then ?_
      obtain rfl := e_some h4
      exact ⟨(), hd_mk trivial⟩
    ·
      replace h4 := e_f h4 hb10
      refine kgd hb10 (v_mv) ?_
      refine kgd hb10 (v_fb fa_25_1) ?_
      refine kgd hb10 (v_ldb Tryd.isAgg23) ?_
      refine kgd hb10 (v_len Tryd.runUnderlying23) ?_
      obtain ⟨v12, hv11, h4⟩ := e_bind h4
      refine kgk hb10 (n_call Tryd.call75 (w_impl_isIndex hv11) ?_)
      rintro _ _ ⟨rfl, rfl⟩
      refine kgd hb10 (v_not) ?_
      refine kd (v_pf hb10) ?_
      refine kops_nil ?_
      refine kn_then ?_
      obtain rfl := e_some h4
      exact ⟨(), hd_mk trivial⟩
  · intro x3 y15 _ h16
    refine kn_then ?_
    refine kwp_cond rfl (fun hc17 => ?_) (fun hc17 => ?_)
    ·
      replace h16 := e_t h16 hc17
      refine kwp_seq ?_
      refine kwp_region ?_
      refine kd (v_as) ?_
      refine kops_nil ?_
      refine kn_then ?_
      refine kwp_ret ?_
      refine kr_then ?_
      obtain rfl := e_some h16
      refine r1 [] ?_
      exact ⟨rfl, rfl⟩
    ·
      replace h16 := e_f h16 hc17
      refine kwp_skip ?_
      refine kn_then ?_
      refine kwp_seq ?_
      refine kwp_nil 5 (by decide) ?_
      obtain ⟨v19, hv18, h16⟩ := e_bind h16
      obtain ⟨v22, hv21, h16⟩ := e_bind h16
      refine kwp_cutS (inv := [(2, .pointer (some p2_2))]) (fun (y : Option Addr × Nat × Addr) => [(5, .pointer (some y.2.2))]) (fun (y : Option Addr × Nat × Addr) => [⟨.pointer (some p2_2), 2, [[.int .i64 s0.st, .slice s01a s0.legs.length s01c]]⟩, ⟨.pointer (some y.2.2), 2, [[.int .i64 s0.st, .slice y.1 v22.length y.2.1]]⟩, ⟨.slice y.1 v22.length y.2.1, 5, v22.map encLeg⟩]) (fun (y : Option Addr × Nat × Addr) => True) ?_ ?_
      ·
        refine kwp_tree (.quiet 0 (.quiet 1 (.quiet 2 (.quiet 3 (.quiet 5 (.quiet 6 (.quiet 7 (.two 4 (.two 8 (.quiet 9 (.one 10 (.one 11 .stop))) 10 (.one 8 (.quiet 9 (.one 11 .stop)))) 10 (.one 4 (.one 8 (.quiet 9 (.one 11 .stop)))))))))))) [] [⟨.pointer (some p2_2), 2, [[.int .i64 s0.st, .slice s01a s0.legs.length s01c]]⟩] drawMixed (by kernel_rfl) nopan (by (repeat (first | exact Sub.refl _ | exact Sub.nil _ | refine Sub.chunk (by repeat (first | exact Pick.here | apply Pick.there | apply Pick.seg)) (by rfl) ?_ | refine Sub.seg (by repeat (first | exact PickSeg.here | exact PickSeg.all | apply PickSeg.there | apply PickSeg.seg)) ?_ | exact Sub.seg0 (by repeat (first | exact PickSeg.here | exact PickSeg.all | apply PickSeg.there | apply PickSeg.seg)) | apply Sub.assoc))) ?_
        refine kt_d rfl rfl rfl (v_fb fa_25_0) ?_
        refine kt_d rfl rfl rfl (v_ldb Tryd.isAgg3) ?_
        refine kt_d rfl rfl rfl (v_fb fa_25_1) ?_
        refine kt_d rfl rfl rfl (v_ldb Tryd.isAgg23) ?_
        refine kt_d rfl rfl rfl (v_mv) ?_
        refine kt_d rfl rfl rfl (v_mv) ?_
        refine kt_d rfl rfl rfl (v_add) ?_
        refine kt_two ?_ ?_
        ·
          refine kl_k rfl rfl (n_call Tryd.call91 (w_slices_Clone_impl_Leg_impl_Leg s01a s0.legs.length s01c hv18) ?_)
          rintro _ _ ⟨q20a, q20c, rfl, rfl⟩
          refine ⟨.inl (by (repeat (first | exact Sub.refl _ | exact Sub.nil _ | refine Sub.chunk (by repeat (first | exact Pick.here | apply Pick.there | apply Pick.seg)) (by rfl) ?_ | refine Sub.seg (by repeat (first | exact PickSeg.here | exact PickSeg.all | apply PickSeg.there | apply PickSeg.seg)) ?_ | exact Sub.seg0 (by repeat (first | exact PickSeg.here | exact PickSeg.all | apply PickSeg.there | apply PickSeg.seg)) | apply Sub.assoc))), ?_⟩
          refine kt_two ?_ ?_
          ·
            refine kl_k rfl rfl (n_call Tryd.call90 (w_slices_Delete_impl_Leg_impl_Leg q20a v19.length q20c hv21) ?_)
            rintro _ _ ⟨q23a, q23c, rfl, rfl⟩
            refine ⟨.inl (by (repeat (first | exact Sub.refl _ | exact Sub.nil _ | refine Sub.chunk (by repeat (first | exact Pick.here | apply Pick.there | apply Pick.seg)) (by rfl) ?_ | refine Sub.seg (by repeat (first | exact PickSeg.here | exact PickSeg.all | apply PickSeg.there | apply PickSeg.seg)) ?_ | exact Sub.seg0 (by repeat (first | exact PickSeg.here | exact PickSeg.all | apply PickSeg.there | apply PickSeg.seg)) | apply Sub.assoc))), ?_⟩
            refine kt_d rfl rfl rfl (v_bd [(0, _), (1, _)] [_, _] Tryd.zeroValue25 Tryd.runUnderlying25 pl_25) ?_
            refine kt_one ?_
            refine kl_k rfl rfl (n_alloc (e := [.int .i64 0, .slice none 0 0]) 2 Tryd.zeroValue25 (fun p5_24 => ?_))
            refine ⟨.inl (by (repeat (first | exact Sub.refl _ | exact Sub.nil _ | refine Sub.chunk (by repeat (first | exact Pick.here | apply Pick.there | apply Pick.seg)) (by rfl) ?_ | refine Sub.seg (by repeat (first | exact PickSeg.here | exact PickSeg.all | apply PickSeg.there | apply PickSeg.seg)) ?_ | exact Sub.seg0 (by repeat (first | exact PickSeg.here | exact PickSeg.all | apply PickSeg.there | apply PickSeg.seg)) | apply Sub.assoc))), ?_⟩
            refine kt_one ?_
            refine kl_k rfl rfl (s_B (e' := [.int .i64 s0.st, .slice q23a v22.length q23c]) Tryd.sizeOf25 ?_)
            refine ⟨.inl (by (repeat (first | exact Sub.refl _ | exact Sub.nil _ | refine Sub.chunk (by repeat (first | exact Pick.here | apply Pick.there | apply Pick.seg)) (by rfl) ?_ | refine Sub.seg (by repeat (first | exact PickSeg.here | exact PickSeg.all | apply PickSeg.there | apply PickSeg.seg)) ?_ | exact Sub.seg0 (by repeat (first | exact PickSeg.here | exact PickSeg.all | apply PickSeg.there | apply PickSeg.seg)) | apply Sub.assoc))), ?_⟩
            refine kt_nil ?_
            refine kn_then ?_
            exact ⟨(q23a, q23c, p5_24), hd_mk trivial⟩
          ·
            refine kl_k rfl rfl (n_alloc (e := [.int .i64 0, .slice none 0 0]) 2 Tryd.zeroValue25 (fun p5_24 => ?_))
            refine ⟨.inl (by (repeat (first | exact Sub.refl _ | exact Sub.nil _ | refine Sub.chunk (by repeat (first | exact Pick.here | apply Pick.there | apply Pick.seg)) (by rfl) ?_ | refine Sub.seg (by repeat (first | exact PickSeg.here | exact PickSeg.all | apply PickSeg.there | apply PickSeg.seg)) ?_ | exact Sub.seg0 (by repeat (first | exact PickSeg.here | exact PickSeg.all | apply PickSeg.there | apply PickSeg.seg)) | apply Sub.assoc))), ?_⟩
            refine kt_one ?_
            refine kl_k rfl rfl (n_call Tryd.call90 (w_slices_Delete_impl_Leg_impl_Leg q20a v19.length q20c hv21) ?_)
            rintro _ _ ⟨q23a, q23c, rfl, rfl⟩
            refine ⟨.inl (by (repeat (first | exact Sub.refl _ | exact Sub.nil _ | refine Sub.chunk (by repeat (first | exact Pick.here | apply Pick.there | apply Pick.seg)) (by rfl) ?_ | refine Sub.seg (by repeat (first | exact PickSeg.here | exact PickSeg.all | apply PickSeg.there | apply PickSeg.seg)) ?_ | exact Sub.seg0 (by repeat (first | exact PickSeg.here | exact PickSeg.all | apply PickSeg.there | apply PickSeg.seg)) | apply Sub.assoc))), ?_⟩
            refine kt_d rfl rfl rfl (v_bd [(0, _), (1, _)] [_, _] Tryd.zeroValue25 Tryd.runUnderlying25 pl_25) ?_
            refine kt_one ?_
            refine kl_k rfl rfl (s_B (e' := [.int .i64 s0.st, .slice q23a v22.length q23c]) Tryd.sizeOf25 ?_)
            refine ⟨.inl (by (repeat (first | exact Sub.refl _ | exact Sub.nil _ | refine Sub.chunk (by repeat (first | exact Pick.here | apply Pick.there | apply Pick.seg)) (by rfl) ?_ | refine Sub.seg (by repeat (first | exact PickSeg.here | exact PickSeg.all | apply PickSeg.there | apply PickSeg.seg)) ?_ | exact Sub.seg0 (by repeat (first | exact PickSeg.here | exact PickSeg.all | apply PickSeg.there | apply PickSeg.seg)) | apply Sub.assoc))), ?_⟩
            refine kt_nil ?_
            refine kn_then ?_
            exact ⟨(q23a, q23c, p5_24), hd_mk trivial⟩
        ·
          refine kl_k rfl rfl (n_alloc (e := [.int .i64 0, .slice none 0 0]) 2 Tryd.zeroValue25 (fun p5_24 => ?_))
          refine ⟨.inl (by (repeat (first | exact Sub.refl _ | exact Sub.nil _ | refine Sub.chunk (by repeat (first | exact Pick.here | apply Pick.there | apply Pick.seg)) (by rfl) ?_ | refine Sub.seg (by repeat (first | exact PickSeg.here | exact PickSeg.all | apply PickSeg.there | apply PickSeg.seg)) ?_ | exact Sub.seg0 (by repeat (first | exact PickSeg.here | exact PickSeg.all | apply PickSeg.there | apply PickSeg.seg)) | apply Sub.assoc))), ?_⟩
          refine kt_one ?_
          refine kl_k rfl rfl (n_call Tryd.call91 (w_slices_Clone_impl_Leg_impl_Leg s01a s0.legs.length s01c hv18) ?_)
          rintro _ _ ⟨q20a, q20c, rfl, rfl⟩
          refine ⟨.inl (by (repeat (first | exact Sub.refl _ | exact Sub.nil _ | refine Sub.chunk (by repeat (first | exact Pick.here | apply Pick.there | apply Pick.seg)) (by rfl) ?_ | refine Sub.seg (by repeat (first | exact PickSeg.here | exact PickSeg.all | apply PickSeg.there | apply PickSeg.seg)) ?_ | exact Sub.seg0 (by repeat (first | exact PickSeg.here | exact PickSeg.all | apply PickSeg.there | apply PickSeg.seg)) | apply Sub.assoc))), ?_⟩
          refine kt_one ?_
          refine kl_k rfl rfl (n_call Tryd.call90 (w_slices_Delete_impl_Leg_impl_Leg q20a v19.length q20c hv21) ?_)
          rintro _ _ ⟨q23a, q23c, rfl, rfl⟩
          refine ⟨.inl (by (repeat (first | exact Sub.refl _ | exact Sub.nil _ | refine Sub.chunk (by repeat (first | exact Pick.here | apply Pick.there | apply Pick.seg)) (by rfl) ?_ | refine Sub.seg (by repeat (first | exact PickSeg.here | exact PickSeg.all | apply PickSeg.there | apply PickSeg.seg)) ?_ | exact Sub.seg0 (by repeat (first | exact PickSeg.here | exact PickSeg.all | apply PickSeg.there | apply PickSeg.seg)) | apply Sub.assoc))), ?_⟩
          refine kt_d rfl rfl rfl (v_bd [(0, _), (1, _)] [_, _] Tryd.zeroValue25 Tryd.runUnderlying25 pl_25) ?_
          refine kt_one ?_
          refine kl_k rfl rfl (s_B (e' := [.int .i64 s0.st, .slice q23a v22.length q23c]) Tryd.sizeOf25 ?_)
          refine ⟨.inl (by (repeat (first | exact Sub.refl _ | exact Sub.nil _ | refine Sub.chunk (by repeat (first | exact Pick.here | apply Pick.there | apply Pick.seg)) (by rfl) ?_ | refine Sub.seg (by repeat (first | exact PickSeg.here | exact PickSeg.all | apply PickSeg.there | apply PickSeg.seg)) ?_ | exact Sub.seg0 (by repeat (first | exact PickSeg.here | exact PickSeg.all | apply PickSeg.there | apply PickSeg.seg)) | apply Sub.assoc))), ?_⟩
          refine kt_nil ?_
          refine kn_then ?_
          exact ⟨(q23a, q23c, p5_24), hd_mk trivial⟩
      · intro y25 _
        obtain ⟨q23a, q23c, p5_24⟩ := y25
        refine kn_then ?_
        refine kwp_seq ?_
        obtain ⟨v27, hv26, h16⟩ := e_bind h16
        obtain ⟨v30, hv29, h16⟩ := e_bind h16
        refine kwp_tree (.quiet 0 (.quiet 2 (.one 1 (.one 3 (.quiet 4 (.quiet 5 .stop)))))) [] [⟨.pointer (some p2_2), 2, [[.int .i64 s0.st, .slice s01a s0.legs.length s01c]]⟩, ⟨.pointer (some p5_24), 2, [[.int .i64 s0.st, .slice q23a v22.length q23c]]⟩] drawMixed (by kernel_rfl) nopan (by (repeat (first | exact Sub.refl _ | exact Sub.nil _ | refine Sub.chunk (by repeat (first | exact Pick.here | apply Pick.there | apply Pick.seg)) (by rfl) ?_ | refine Sub.seg (by repeat (first | exact PickSeg.here | exact PickSeg.all | apply PickSeg.there | apply PickSeg.seg)) ?_ | exact Sub.seg0 (by repeat (first | exact PickSeg.here | exact PickSeg.all | apply PickSeg.there | apply PickSeg.seg)) | apply Sub.assoc))) ?_
        refine kt_d rfl rfl rfl (v_ldB Tryd.isAgg25 Tryd.sizeOf25) ?_
        refine kt_d rfl rfl rfl (v_ldB Tryd.isAgg25 Tryd.sizeOf25) ?_
        refine kt_one ?_
        refine kl_k rfl rfl (n_call Tryd.call33 (w_impl_TreesMany s01a s0.legs.length s01c hv26) ?_)
        rintro _ _ ⟨rfl, rfl⟩
        refine ⟨.inl (by (repeat (first | exact Sub.refl _ | exact Sub.nil _ | refine Sub.chunk (by repeat (first | exact Pick.here | apply Pick.there | apply Pick.seg)) (by rfl) ?_ | refine Sub.seg (by repeat (first | exact PickSeg.here | exact PickSeg.all | apply PickSeg.there | apply PickSeg.seg)) ?_ | exact Sub.seg0 (by repeat (first | exact PickSeg.here | exact PickSeg.all | apply PickSeg.there | apply PickSeg.seg)) | apply Sub.assoc))), ?_⟩
        refine kt_one ?_
        refine kl_k rfl rfl (n_call Tryd.call33 (w_impl_TreesMany q23a v22.length q23c hv29) ?_)
        rintro _ _ ⟨rfl, rfl⟩
        refine ⟨.inl (by (repeat (first | exact Sub.refl _ | exact Sub.nil _ | refine Sub.chunk (by repeat (first | exact Pick.here | apply Pick.there | apply Pick.seg)) (by rfl) ?_ | refine Sub.seg (by repeat (first | exact PickSeg.here | exact PickSeg.all | apply PickSeg.there | apply PickSeg.seg)) ?_ | exact Sub.seg0 (by repeat (first | exact PickSeg.here | exact PickSeg.all | apply PickSeg.there | apply PickSeg.seg)) | apply Sub.assoc))), ?_⟩
        refine kt_d rfl rfl rfl (v_sub) ?_
        refine kt_d rfl rfl rfl (v_as) ?_
        refine kt_nil ?_
        refine kn_then ?_
        refine kwp_ret ?_
        obtain rfl := e_some h16
        refine r1 [] ?_
        exact ⟨rfl, rfl⟩

set_option maxRecDepth 20000 in
theorem w_spec_TreesWith (s01a : Option Addr) (s01n : Nat) (s01c : Nat) {s0 : Survey} {index0 : Int} {r : Int} (h : p_spec_TreesWith s0 index0 = some r) :
    Triple Tryd.prog 43 [.agg #[.int .i64 s0.st, .slice s01a s01n s01c], .int .i64 index0] [⟨.slice s01a s01n s01c, 5, s0.legs.map encLeg⟩] [] (fun v ch => v = .int .i64 r ∧ ch = []) := by
  refine triple_start 37 Tryd.func43 Tryd.ntmps43 rfl rfl (fun w0 => ?_)
  refine k_len (c := s01c) (fun hl1 => ?_)
  subst hl1
  unfold p_spec_TreesWith at h
  refine kwp_seq ?_
  refine kwp_region ?_
  refine kk (n_box (e := [.int .i64 s0.st, .slice s01a s0.legs.length s01c]) 2 (fun p2_2 => ?_))
  refine kd (v_as) ?_
  refine kops_nil ?_
  refine kn_then ?_
  refine kwp_seq ?_
  refine kwp_seq ?_
  refine kwp_cutE (inv := [(1, .int .i64 index0), (2, .pointer (some p2_2))]) (fun (z : Bool) (y : Unit) => [(19, .bool z)]) (fun (z : Bool) (y : Unit) => [⟨.pointer (some p2_2), 2, [[.int .i64 s0.st, .slice s01a s0.legs.length s01c]]⟩]) (fun _ _ => True) h ?_ ?_
  · intro t6 h4
    refine kwp_region ?_
    refine kd (v_ldB Tryd.isAgg25 Tryd.sizeOf25) ?_
    obtain ⟨v8, hv7, h4⟩ := e_bind h4
    refine kk (n_call Tryd.call39 (w_spec_SurveyValid s01a s0.legs.length s01c hv7) ?_)
    rintro _ _ ⟨rfl, rfl⟩
    refine kd (v_not) ?_
    refine kd (v_mv) ?_
    refine kops_split 11 rfl (fun hb10 => ?_) (fun hb10 => ?_)
    ·
      replace h4 := e_t h4 hb10
      refine kskip hb10 ?_
      refine kskip hb10 ?_
      refine kskip hb10 ?_
      refine kskip hb10 ?_
      refine kskip hb10 ?_
      refine kskip hb10 ?_
      refine kskip hb10 ?_
      refine kd (v_pt hb10) ?_
      refine kops_nil ?_
      refine kn_then ?_
      obtain rfl := e_some h4
      exact ⟨(), hd_mk trivial⟩
    ·
      replace h4 := e_f h4 hb10
      refine kgd hb10 (v_mv) ?_
      refine kgd hb10 (v_fb fa_25_1) ?_
      refine kgd hb10 (v_ldb Tryd.isAgg23) ?_
      refine kgd hb10 (v_len Tryd.runUnderlying23) ?_
      refine kgd hb10 (v_sub) ?_
      obtain ⟨v12, hv11, h4⟩ := e_bind h4
      refine kgk hb10 (n_call Tryd.call88 (w_spec_l1In hv11) ?_)
      rintro _ _ ⟨rfl, rfl⟩
      refine kgd hb10 (v_not) ?_
      refine kd (v_pf hb10) ?_
      refine kops_nil ?_
      refine kn_then ?_
      obtain rfl := e_some h4
      exact ⟨(), hd_mk trivial⟩
  · intro x3 y15 _ h16
    refine kn_then ?_
    refine kwp_cond rfl (fun hc17 => ?_) (fun hc17 => ?_)
    ·
      replace h16 := e_t h16 hc17
      refine kwp_seq ?_
      refine kwp_region ?_
      refine kd (v_as) ?_
      refine kops_nil ?_
      refine kn_then ?_
      refine kwp_ret ?_
      refine kr_then ?_
      obtain rfl := e_some h16
      refine r1 [] ?_
      exact ⟨rfl, rfl⟩
    ·
      replace h16 := e_f h16 hc17
      refine kwp_skip ?_
      refine kn_then ?_
      refine kwp_seq ?_
      refine kwp_region ?_
      refine kd (v_as) ?_
      refine kops_nil ?_
      refine kn_then ?_
      refine kwp_seq ?_
      refine kwp_region ?_
      refine kd (v_ldB Tryd.isAgg25 Tryd.sizeOf25) ?_
      obtain ⟨v19, hv18, h16⟩ := e_bind h16
      refine kk (n_call Tryd.call48 (w_spec_TreesAll s01a s0.legs.length s01c hv18) ?_)
      rintro _ _ ⟨q20a, q20c, q20R, rfl, hq20R, rfl⟩
      refine kd (v_as) ?_
      refine kops_nil ?_
      refine kn_then ?_
      refine kwp_seq ?_
      refine kwp_seq ?_
      refine kwp_region ?_
      refine kd (v_as) ?_
      refine kops_nil ?_
      refine kn_then ?_
      refine kwp_cutE (inv := []) (fun (z : Int) (y : Unit) => [(5, .int .i64 z)]) (fun (z : Int) (y : Unit) => []) (fun _ _ => True) h16 ?_ ?_
      · intro t24 h22
        refine kwp_block ?_
        refine kwp_loopE (inv := [(1, .int .i64 index0), (6, .slice q20a v19.length q20c)]) (fun (z : Int × Int) (y : Unit) => [(5, .int .i64 z.1), (7, .int .i64 z.2)]) (fun (z : Int × Int) (y : Unit) => (⟨.slice q20a v19.length q20c, 1, q20R.map encRow⟩ :: (rowsC q20R))) (fun _ _ => True) h22 ⟨(), hd_mk trivial⟩ ?_
        intro z29 y30 b27 _ h28
        obtain ⟨n25, k26⟩ := z29
        unfold p_spec_TreesWith_L0 at h28
        refine kwp_seq ?_
        refine kwp_seq ?_
        refine kwp_region ?_
        refine kd (v_mv) ?_
        refine kd (v_mv) ?_
        refine kd (v_len Tryd.runUnderlying51) ?_
        refine kd (v_cmp) ?_
        refine kops_nil ?_
        refine kn_then ?_
        refine kwp_cond rfl (fun hc31 => ?_) (fun hc31 => ?_)
        ·
          replace h28 := e_t h28 hc31
          refine kwp_skip ?_
          refine kn_then ?_
          refine kwp_seq ?_
          refine kwp_block ?_
          refine kwp_seq ?_
          refine kwp_region ?_
          refine kd (v_mv) ?_
          refine kd (v_mv) ?_
          obtain ⟨j32, ej32, nj32, h28⟩ := e_idx h28
          refine kd (v_ia ej32 nj32 Tryd.runUnderlying51 Tryd.sizeOf26) ?_
          refine kd (v_ldr nj32 hq20R Tryd.isAgg26) ?_
          refine kd (v_mv) ?_
          obtain ⟨v34, hv33, h28⟩ := e_bind h28
          refine kk (n_call Tryd.call92 (w_spec_l1Has ((gx q20R j32).a) ((gx v19 j32).length) ((gx q20R j32).c) hv33) ?_ (hv := (Views.cons (by repeat (first | exact mr hq20R (by first | exact nj32 | (simpa using nj32) | omega | (simp only [List.length_set]; omega)) | exact mr0 hq20R (by first | exact nj32 | (simpa using nj32) | omega | (simp only [List.length_set]; omega)) | apply mt | apply mas | apply ms)) (View.refl _) (Views.nil _))))
          rintro _ _ ⟨rfl, rfl⟩
          refine kops_nil ?_
          refine kn_then ?_
          refine kwp_cond rfl (fun hc36 => ?_) (fun hc36 => ?_)
          ·
            replace h28 := e_t h28 hc36
            refine kwp_region ?_
            refine kd (v_mv) ?_
            refine kd (v_add) ?_
            refine kd (v_as) ?_
            refine kops_nil ?_
            refine kn_block ?_
            refine kn_then ?_
            refine kwp_region ?_
            refine kd (v_mv) ?_
            refine kd (v_add) ?_
            refine kd (v_as) ?_
            refine kops_nil ?_
            refine kn_then ?_
            obtain rfl := e_some h28
            exact ⟨_, (), rfl, hd_mk trivial⟩
          ·
            replace h28 := e_f h28 hc36
            refine kwp_skip ?_
            refine kn_block ?_
            refine kn_then ?_
            refine kwp_region ?_
            refine kd (v_mv) ?_
            refine kd (v_add) ?_
            refine kd (v_as) ?_
            refine kops_nil ?_
            refine kn_then ?_
            obtain rfl := e_some h28
            exact ⟨_, (), rfl, hd_mk trivial⟩
        ·
          replace h28 := e_f h28 hc31
          refine kwp_exit ?_
          refine ke_then ?_
          obtain rfl := e_some h28
          refine k_out ?_ rfl
          rintro rfl
          refine ke_block ?_
          exact ⟨(), hd_mk trivial⟩
      · intro n21 y38 _ h39
        refine kn_then ?_
        refine kwp_seq ?_
        refine kwp_region ?_
        refine kd (v_mv) ?_
        refine kd (v_as) ?_
        refine kops_nil ?_
        refine kn_then ?_
        refine kwp_ret ?_
        obtain rfl := e_some h39
        refine r1 [] ?_
        exact ⟨rfl, rfl⟩

end Go.Proofs.YtnibfmofkamjoaaDoor
