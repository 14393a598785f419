/- What the plain programs return, the functions of the program return; no condition. -/
import Derived.Test.YtnibfmofkamjoaaDoorZQ
import Derived.Test.YtnibfmofkamjoaaDoorZFa
import Derived.Test.YtnibfmofkamjoaaDoorZVbh
import Derived.Test.YtnibfmofkamjoaaDoorZVbt
namespace Go.Proofs.YtnibfmofkamjoaaDoor
open Go
set_option linter.unusedVariables false
set_option linter.unusedSimpArgs false

set_option maxRecDepth 20000 in
theorem w_spec_DrawFixValid (code0a : Option Addr) (code0n : Nat) (code0c : Nat) {code0 : List UInt8} {r : Survey × Fix} (h : p_spec_DrawFixValid code0 = some r) :
    Triple Tryd.prog 44 [.slice code0a code0n code0c] [⟨.slice code0a code0n code0c, 1, code0.map encB⟩] [] (fun v ch => ∃ (w01a : Option Addr) (w01c : Nat) (w11a : Option Addr) (w11c : Nat), v = .tuple #[.agg #[.int .i64 r.1.st, .slice w01a r.1.legs.length w01c], .agg #[.int .i64 r.2.den, .slice w11a r.2.nums.length w11c]] ∧ ch = [⟨.slice w01a r.1.legs.length w01c, 5, r.1.legs.map encLeg⟩, ⟨.slice w11a r.2.nums.length w11c, 3, r.2.nums.map encWay⟩]) := by
  refine triple_start 9 Tryd.func44 Tryd.ntmps44 rfl rfl (fun w0 => ?_)
  refine k_len (c := code0c) (fun hl1 => ?_)
  subst hl1
  unfold p_spec_DrawFixValid at h
  refine kwp_seq ?_
  refine kwp_region ?_
  refine kops_nilchunk 5 (by decide) ?_
  refine kk (n_alloc (e := [.int .i64 0, .slice none 0 0]) 2 Tryd.zeroValue25 (fun p2_2 => ?_))
  refine kops_nilchunk 3 (by decide) ?_
  refine kk (n_alloc (e := [.int .i64 0, .slice none 0 0]) 2 Tryd.zeroValue31 (fun p3_3 => ?_))
  refine kops_nil ?_
  refine kn_then ?_
  refine kwp_seq ?_
  refine kwp_region ?_
  refine kd (v_mv) ?_
  obtain ⟨v5, hv4, h⟩ := e_bind h
  refine kk (n_call Tryd.call68 (w_spec_l20Open code0a code0.length code0c hv4) ?_)
  rintro _ _ ⟨q6p, q60a, q60c, rfl, hvwq6, rfl⟩
  obtain ⟨⟨v8, v9, v10⟩, hv7, h⟩ := e_bind h
  refine kk (n_call Tryd.call93 (w_spec_l20Fix q6p q60a v5.b.length q60c hv7) ?_ (hv := (Views.cons (by repeat (first | exact mh | apply mt | apply mas | apply ms)) hvwq6 (Views.nil _))))
  rintro _ _ ⟨q111a, q111c, q121a, q121c, rfl, rfl⟩
  refine kd (v_ex) ?_
  refine kd (v_ex) ?_
  refine kk (s_B (e' := [.int .i64 v8.st, .slice q111a v8.legs.length q111c]) Tryd.sizeOf25 ?_)
  refine kk (s_B (e' := [.int .i64 v9.den, .slice q121a v9.nums.length q121c]) Tryd.sizeOf31 ?_)
  refine kops_nil ?_
  refine kn_then ?_
  refine kwp_ret ?_
  obtain rfl := e_some h
  refine rcc Tryd.isAgg25 Tryd.sizeOf25 Tryd.isAgg31 Tryd.sizeOf31 [⟨.slice q111a v8.legs.length q111c, 5, v8.legs.map encLeg⟩, ⟨.slice q121a v9.nums.length q121c, 3, v9.nums.map encWay⟩] ?_
  exact ⟨q111a, q111c, q121a, q121c, rfl, rfl⟩

set_option maxRecDepth 20000 in
set_option maxHeartbeats 2000000 in
theorem w_laws_FnFixValid (code0a : Option Addr) (code0n : Nat) (code0c : Nat) {code0 : List UInt8} {r : Bool} (h : p_laws_FnFixValid code0 = some r) :
    Triple Tryd.prog 8 [.slice code0a code0n code0c] [⟨.slice code0a code0n code0c, 1, code0.map encB⟩, tabC] [] (fun v ch => v = .bool r ∧ ch = []) := by
  refine triple_start 51 Tryd.func8 Tryd.ntmps8 rfl rfl (fun w0 => ?_)
  refine k_len (c := code0c) (fun hl1 => ?_)
  subst hl1
  unfold p_laws_FnFixValid at h
  refine kwp_seq ?_
  refine kwp_region ?_
  refine kd (v_as) ?_
  refine kops_nil ?_
  refine kn_then ?_
  refine kwp_seq ?_
  refine kwp_seq ?_
  refine kwp_region ?_
  refine kd (v_mv) ?_
  refine kd (v_len Tryd.runUnderlying22) ?_
  refine kd (v_cmp) ?_
  refine kops_nil ?_
  refine kn_then ?_
  refine kwp_cond rfl (fun hc2 => ?_) (fun hc2 => ?_)
  ·
    replace h := e_t h hc2
    refine kwp_seq ?_
    refine kwp_region ?_
    refine kd (v_as) ?_
    refine kops_nil ?_
    refine kn_then ?_
    refine kwp_ret ?_
    refine kr_then ?_
    obtain rfl := e_some h
    refine r1 [] ?_
    exact ⟨rfl, rfl⟩
  ·
    replace h := e_f h hc2
    refine kwp_skip ?_
    refine kn_then ?_
    refine kwp_seq ?_
    refine kwp_region ?_
    refine kd (v_mv) ?_
    obtain ⟨⟨v4, v5⟩, hv3, h⟩ := e_bind h
    refine kk (n_call Tryd.call44 (w_spec_DrawFixValid code0a code0.length code0c hv3) ?_)
    rintro _ _ ⟨q61a, q61c, q71a, q71c, rfl, rfl⟩
    refine kd (v_mv) ?_
    refine kd (v_ex) ?_
    refine kd (v_ex) ?_
    refine kops_nilchunk 5 (by decide) ?_
    refine kk (n_alloc (e := [.int .i64 0, .slice none 0 0]) 2 Tryd.zeroValue25 (fun p3_8 => ?_))
    refine kops_nilchunk 3 (by decide) ?_
    refine kk (n_alloc (e := [.int .i64 0, .slice none 0 0]) 2 Tryd.zeroValue31 (fun p4_9 => ?_))
    refine kk (s_B (e' := [.int .i64 v4.st, .slice q61a v4.legs.length q61c]) Tryd.sizeOf25 ?_)
    refine kk (s_B (e' := [.int .i64 v5.den, .slice q71a v5.nums.length q71c]) Tryd.sizeOf31 ?_)
    refine kops_nil ?_
    refine kn_then ?_
    refine kwp_seq ?_
    refine kwp_region ?_
    refine kd (v_ldB Tryd.isAgg25 Tryd.sizeOf25) ?_
    refine kd (v_ldB Tryd.isAgg31 Tryd.sizeOf31) ?_
    obtain ⟨v11, hv10, h⟩ := e_bind h
    refine kk (n_call Tryd.call22 (w_impl_FixValid q61a v4.legs.length q61c q71a v5.nums.length q71c hv10) ?_)
    rintro _ _ ⟨rfl, rfl⟩
    refine kd (v_as) ?_
    refine kops_nil ?_
    refine kn_then ?_
    refine kwp_seq ?_
    refine kwp_seq ?_
    refine kwp_region ?_
    refine kd (v_mv) ?_
    refine kd (v_ldB Tryd.isAgg25 Tryd.sizeOf25) ?_
    refine kd (v_ldB Tryd.isAgg31 Tryd.sizeOf31) ?_
    obtain ⟨v14, hv13, h⟩ := e_bind h
    refine kk (n_call Tryd.call45 (w_spec_FixValid q61a v4.legs.length q61c q71a v5.nums.length q71c hv13) ?_)
    rintro _ _ ⟨rfl, rfl⟩
    refine kd (v_neb Tryd.underlying4) ?_
    refine kops_nil ?_
    refine kn_then ?_
    refine kwp_cond rfl (fun hc16 => ?_) (fun hc16 => ?_)
    ·
      replace h := e_t h hc16
      refine kwp_seq ?_
      refine kwp_region ?_
      refine kd (v_as) ?_
      refine kops_nil ?_
      refine kn_then ?_
      refine kwp_ret ?_
      refine kr_then ?_
      obtain rfl := e_some h
      refine r1 [] ?_
      exact ⟨rfl, rfl⟩
    ·
      replace h := e_f h hc16
      refine kwp_skip ?_
      refine kn_then ?_
      refine kwp_seq ?_
      refine kwp_seq ?_
      refine kwp_region ?_
      refine kd (v_mv) ?_
      refine kd (v_not) ?_
      refine kops_nil ?_
      refine kn_then ?_
      refine kwp_cond rfl (fun hc17 => ?_) (fun hc17 => ?_)
      ·
        replace h := e_t h hc17
        refine kwp_seq ?_
        refine kwp_region ?_
        obtain ⟨v19, hv18, h⟩ := e_bind h
        refine kk (n_call Tryd.call19 (w_laws_alive hv18) ?_)
        rintro _ _ ⟨rfl, rfl⟩
        refine kd (v_as) ?_
        refine kops_nil ?_
        refine kn_then ?_
        refine kwp_ret ?_
        refine kr_then ?_
        obtain rfl := e_some h
        refine r1 [] ?_
        exact ⟨rfl, rfl⟩
      ·
        replace h := e_f h hc17
        refine kwp_skip ?_
        refine kn_then ?_
        refine kwp_seq ?_
        refine kwp_nil 3 (by decide) ?_
        obtain ⟨hz22, h⟩ := e_need h
        refine kwp_cutS (inv := [(3, .pointer (some p3_8)), (4, .pointer (some p4_9))]) (fun (y : Option Addr × Nat × Addr) => [(6, .pointer (some y.2.2))]) (fun (y : Option Addr × Nat × Addr) => [⟨.pointer (some p3_8), 2, [[.int .i64 v4.st, .slice q61a v4.legs.length q61c]]⟩, ⟨.slice q61a v4.legs.length q61c, 5, v4.legs.map encLeg⟩, ⟨.pointer (some p4_9), 2, [[.int .i64 v5.den, .slice q71a v5.nums.length q71c]]⟩, ⟨.slice q71a v5.nums.length q71c, 3, v5.nums.map encWay⟩, ⟨.pointer (some y.2.2), 2, [[.int .i64 v5.den, .slice y.1 ((([] : List Way) ++ v5.nums).length) y.2.1]]⟩, ⟨.slice y.1 ((([] : List Way) ++ v5.nums).length) y.2.1, 3, (([] : List Way) ++ v5.nums).map encWay⟩]) (fun (y : Option Addr × Nat × Addr) => True) ?_ ?_
        ·
          refine kwp_tree (.quiet 0 (.quiet 1 (.quiet 3 (.quiet 4 (.two 2 (.two 5 (.quiet 6 (.one 7 (.one 8 .stop))) 7 (.one 5 (.quiet 6 (.one 8 .stop)))) 7 (.one 2 (.one 5 (.quiet 6 (.one 8 .stop))))))))) [] [⟨.pointer (some p4_9), 2, [[.int .i64 v5.den, .slice q71a v5.nums.length q71c]]⟩] drawMixed (by kernel_rfl) nopan (by (repeat (first | exact Sub.refl _ | exact Sub.nil _ | refine Sub.chunk (by repeat (first | exact Pick.here | apply Pick.there | apply Pick.seg)) (by rfl) ?_ | refine Sub.seg (by repeat (first | exact PickSeg.here | exact PickSeg.all | apply PickSeg.there | apply PickSeg.seg)) ?_ | exact Sub.seg0 (by repeat (first | exact PickSeg.here | exact PickSeg.all | apply PickSeg.there | apply PickSeg.seg)) | apply Sub.assoc))) ?_
          refine kt_d rfl rfl rfl (v_fb fa_31_0) ?_
          refine kt_d rfl rfl rfl (v_ldb Tryd.isAgg3) ?_
          refine kt_d rfl rfl rfl (v_fb fa_31_1) ?_
          refine kt_d rfl rfl rfl (v_ldb Tryd.isAgg29) ?_
          refine kt_two ?_ ?_
          ·
            refine kl_k rfl rfl (n_lit (enc := encWay) [] ([] : List Way) Tryd.runUnderlying29 Tryd.sizeOf37 Tryd.zeroValue37 (fun a21 => ?_))
            refine ⟨.inl (by (repeat (first | exact Sub.refl _ | exact Sub.nil _ | refine Sub.chunk (by repeat (first | exact Pick.here | apply Pick.there | apply Pick.seg)) (by rfl) ?_ | refine Sub.seg (by repeat (first | exact PickSeg.here | exact PickSeg.all | apply PickSeg.there | apply PickSeg.seg)) ?_ | exact Sub.seg0 (by repeat (first | exact PickSeg.here | exact PickSeg.all | apply PickSeg.there | apply PickSeg.seg)) | apply Sub.assoc))), ?_⟩
            refine kt_two ?_ ?_
            ·
              refine kl_k rfl rfl (n_app (enc := encWay) ok_encWay hz22 Tryd.underlying29 Tryd.type37 (by decide) (fun a23 c24 => ?_))
              refine ⟨.inl (by (repeat (first | exact Sub.refl _ | exact Sub.nil _ | refine Sub.chunk (by repeat (first | exact Pick.here | apply Pick.there | apply Pick.seg)) (by rfl) ?_ | refine Sub.seg (by repeat (first | exact PickSeg.here | exact PickSeg.all | apply PickSeg.there | apply PickSeg.seg)) ?_ | exact Sub.seg0 (by repeat (first | exact PickSeg.here | exact PickSeg.all | apply PickSeg.there | apply PickSeg.seg)) | apply Sub.assoc))), ?_⟩
              refine kt_d rfl rfl rfl (v_bd [(0, _), (1, _)] [_, _] Tryd.zeroValue31 Tryd.runUnderlying31 pl_31) ?_
              refine kt_one ?_
              refine kl_k rfl rfl (n_alloc (e := [.int .i64 0, .slice none 0 0]) 2 Tryd.zeroValue31 (fun p6_25 => ?_))
              refine ⟨.inl (by (repeat (first | exact Sub.refl _ | exact Sub.nil _ | refine Sub.chunk (by repeat (first | exact Pick.here | apply Pick.there | apply Pick.seg)) (by rfl) ?_ | refine Sub.seg (by repeat (first | exact PickSeg.here | exact PickSeg.all | apply PickSeg.there | apply PickSeg.seg)) ?_ | exact Sub.seg0 (by repeat (first | exact PickSeg.here | exact PickSeg.all | apply PickSeg.there | apply PickSeg.seg)) | apply Sub.assoc))), ?_⟩
              refine kt_one ?_
              refine kl_k rfl rfl (s_B (e' := [.int .i64 v5.den, .slice a23 ((([] : List Way) ++ v5.nums).length) c24]) Tryd.sizeOf31 ?_)
              refine ⟨.inl (by (repeat (first | exact Sub.refl _ | exact Sub.nil _ | refine Sub.chunk (by repeat (first | exact Pick.here | apply Pick.there | apply Pick.seg)) (by rfl) ?_ | refine Sub.seg (by repeat (first | exact PickSeg.here | exact PickSeg.all | apply PickSeg.there | apply PickSeg.seg)) ?_ | exact Sub.seg0 (by repeat (first | exact PickSeg.here | exact PickSeg.all | apply PickSeg.there | apply PickSeg.seg)) | apply Sub.assoc))), ?_⟩
              refine kt_nil ?_
              refine kn_then ?_
              exact ⟨(a23, c24, p6_25), hd_mk trivial⟩
            ·
              refine kl_k rfl rfl (n_alloc (e := [.int .i64 0, .slice none 0 0]) 2 Tryd.zeroValue31 (fun p6_25 => ?_))
              refine ⟨.inl (by (repeat (first | exact Sub.refl _ | exact Sub.nil _ | refine Sub.chunk (by repeat (first | exact Pick.here | apply Pick.there | apply Pick.seg)) (by rfl) ?_ | refine Sub.seg (by repeat (first | exact PickSeg.here | exact PickSeg.all | apply PickSeg.there | apply PickSeg.seg)) ?_ | exact Sub.seg0 (by repeat (first | exact PickSeg.here | exact PickSeg.all | apply PickSeg.there | apply PickSeg.seg)) | apply Sub.assoc))), ?_⟩
              refine kt_one ?_
              refine kl_k rfl rfl (n_app (enc := encWay) ok_encWay hz22 Tryd.underlying29 Tryd.type37 (by decide) (fun a23 c24 => ?_))
              refine ⟨.inl (by (repeat (first | exact Sub.refl _ | exact Sub.nil _ | refine Sub.chunk (by repeat (first | exact Pick.here | apply Pick.there | apply Pick.seg)) (by rfl) ?_ | refine Sub.seg (by repeat (first | exact PickSeg.here | exact PickSeg.all | apply PickSeg.there | apply PickSeg.seg)) ?_ | exact Sub.seg0 (by repeat (first | exact PickSeg.here | exact PickSeg.all | apply PickSeg.there | apply PickSeg.seg)) | apply Sub.assoc))), ?_⟩
              refine kt_d rfl rfl rfl (v_bd [(0, _), (1, _)] [_, _] Tryd.zeroValue31 Tryd.runUnderlying31 pl_31) ?_
              refine kt_one ?_
              refine kl_k rfl rfl (s_B (e' := [.int .i64 v5.den, .slice a23 ((([] : List Way) ++ v5.nums).length) c24]) Tryd.sizeOf31 ?_)
              refine ⟨.inl (by (repeat (first | exact Sub.refl _ | exact Sub.nil _ | refine Sub.chunk (by repeat (first | exact Pick.here | apply Pick.there | apply Pick.seg)) (by rfl) ?_ | refine Sub.seg (by repeat (first | exact PickSeg.here | exact PickSeg.all | apply PickSeg.there | apply PickSeg.seg)) ?_ | exact Sub.seg0 (by repeat (first | exact PickSeg.here | exact PickSeg.all | apply PickSeg.there | apply PickSeg.seg)) | apply Sub.assoc))), ?_⟩
              refine kt_nil ?_
              refine kn_then ?_
              exact ⟨(a23, c24, p6_25), hd_mk trivial⟩
          ·
            refine kl_k rfl rfl (n_alloc (e := [.int .i64 0, .slice none 0 0]) 2 Tryd.zeroValue31 (fun p6_25 => ?_))
            refine ⟨.inl (by (repeat (first | exact Sub.refl _ | exact Sub.nil _ | refine Sub.chunk (by repeat (first | exact Pick.here | apply Pick.there | apply Pick.seg)) (by rfl) ?_ | refine Sub.seg (by repeat (first | exact PickSeg.here | exact PickSeg.all | apply PickSeg.there | apply PickSeg.seg)) ?_ | exact Sub.seg0 (by repeat (first | exact PickSeg.here | exact PickSeg.all | apply PickSeg.there | apply PickSeg.seg)) | apply Sub.assoc))), ?_⟩
            refine kt_one ?_
            refine kl_k rfl rfl (n_lit (enc := encWay) [] ([] : List Way) Tryd.runUnderlying29 Tryd.sizeOf37 Tryd.zeroValue37 (fun a21 => ?_))
            refine ⟨.inl (by (repeat (first | exact Sub.refl _ | exact Sub.nil _ | refine Sub.chunk (by repeat (first | exact Pick.here | apply Pick.there | apply Pick.seg)) (by rfl) ?_ | refine Sub.seg (by repeat (first | exact PickSeg.here | exact PickSeg.all | apply PickSeg.there | apply PickSeg.seg)) ?_ | exact Sub.seg0 (by repeat (first | exact PickSeg.here | exact PickSeg.all | apply PickSeg.there | apply PickSeg.seg)) | apply Sub.assoc))), ?_⟩
            refine kt_one ?_
            refine kl_k rfl rfl (n_app (enc := encWay) ok_encWay hz22 Tryd.underlying29 Tryd.type37 (by decide) (fun a23 c24 => ?_))
            refine ⟨.inl (by (repeat (first | exact Sub.refl _ | exact Sub.nil _ | refine Sub.chunk (by repeat (first | exact Pick.here | apply Pick.there | apply Pick.seg)) (by rfl) ?_ | refine Sub.seg (by repeat (first | exact PickSeg.here | exact PickSeg.all | apply PickSeg.there | apply PickSeg.seg)) ?_ | exact Sub.seg0 (by repeat (first | exact PickSeg.here | exact PickSeg.all | apply PickSeg.there | apply PickSeg.seg)) | apply Sub.assoc))), ?_⟩
            refine kt_d rfl rfl rfl (v_bd [(0, _), (1, _)] [_, _] Tryd.zeroValue31 Tryd.runUnderlying31 pl_31) ?_
            refine kt_one ?_
            refine kl_k rfl rfl (s_B (e' := [.int .i64 v5.den, .slice a23 ((([] : List Way) ++ v5.nums).length) c24]) Tryd.sizeOf31 ?_)
            refine ⟨.inl (by (repeat (first | exact Sub.refl _ | exact Sub.nil _ | refine Sub.chunk (by repeat (first | exact Pick.here | apply Pick.there | apply Pick.seg)) (by rfl) ?_ | refine Sub.seg (by repeat (first | exact PickSeg.here | exact PickSeg.all | apply PickSeg.there | apply PickSeg.seg)) ?_ | exact Sub.seg0 (by repeat (first | exact PickSeg.here | exact PickSeg.all | apply PickSeg.there | apply PickSeg.seg)) | apply Sub.assoc))), ?_⟩
            refine kt_nil ?_
            refine kn_then ?_
            exact ⟨(a23, c24, p6_25), hd_mk trivial⟩
        · intro y26 _
          obtain ⟨a23, c24, p6_25⟩ := y26
          refine kn_then ?_
          refine kwp_seq ?_
          refine kwp_region ?_
          refine kd (v_fb fa_31_1) ?_
          refine kd (v_ldb Tryd.isAgg29) ?_
          refine kd (v_bd [(2, _)] [.int .i64 0, .int .i64 0, _] Tryd.zeroValue37 Tryd.runUnderlying37 pl_37) ?_
          obtain ⟨j27, ej27, nj27, h⟩ := e_idx h
          refine kd (v_ia ej27 nj27 Tryd.runUnderlying29 Tryd.sizeOf37) ?_
          refine kk (s_a (⟨0, 0, 1⟩ : Way) nj27 Tryd.sizeOf37 ?_ (ok_encWay _))
          refine kops_nil ?_
          refine kn_then ?_
          refine kwp_seq ?_
          obtain ⟨v29, hv28, h⟩ := e_bind h
          refine sp (!v29) (fun hb31 => ?_) (fun hb31 => ?_)
          ·
            replace h := e_t h hb31
            obtain ⟨j32, ej32, nj32, h⟩ := e_sized h
            obtain ⟨v35, hv34, h⟩ := e_bind h
            refine kwp_tree (.quiet 0 (.quiet 1 (.one 2 (.quiet 3 (.quiet 4 (.quiet 5 (.quiet 6 (.quiet 7 (.quiet 8 (.quiet 9 (.one 10 (.quiet 11 (.one 12 (.quiet 13 (.quiet 14 .stop))))))))))))))) [] [⟨.pointer (some p3_8), 2, [[.int .i64 v4.st, .slice q61a v4.legs.length q61c]]⟩, ⟨.pointer (some p4_9), 2, [[.int .i64 v5.den, .slice q71a v5.nums.length q71c]]⟩, ⟨.pointer (some p6_25), 2, [[.int .i64 v5.den, .slice a23 ((([] : List Way) ++ v5.nums).length) c24]]⟩] drawMixed (by kernel_rfl) nopan (by (repeat (first | exact Sub.refl _ | exact Sub.nil _ | refine Sub.chunk (by repeat (first | exact Pick.here | apply Pick.there | apply Pick.seg)) (by rfl) ?_ | refine Sub.seg (by repeat (first | exact PickSeg.here | exact PickSeg.all | apply PickSeg.there | apply PickSeg.seg)) ?_ | exact Sub.seg0 (by repeat (first | exact PickSeg.here | exact PickSeg.all | apply PickSeg.there | apply PickSeg.seg)) | apply Sub.assoc))) ?_
            refine kt_d rfl rfl rfl (v_ldB Tryd.isAgg25 Tryd.sizeOf25) ?_
            refine kt_d rfl rfl rfl (v_ldB Tryd.isAgg31 Tryd.sizeOf31) ?_
            refine kt_one ?_
            refine kl_k rfl rfl (n_call Tryd.call22 (w_impl_FixValid q61a v4.legs.length q61c a23 ((([] : List Way) ++ v5.nums).length) c24 hv28) ?_)
            rintro _ _ ⟨rfl, rfl⟩
            refine ⟨.inl (by (repeat (first | exact Sub.refl _ | exact Sub.nil _ | refine Sub.chunk (by repeat (first | exact Pick.here | apply Pick.there | apply Pick.seg)) (by rfl) ?_ | refine Sub.seg (by repeat (first | exact PickSeg.here | exact PickSeg.all | apply PickSeg.there | apply PickSeg.seg)) ?_ | exact Sub.seg0 (by repeat (first | exact PickSeg.here | exact PickSeg.all | apply PickSeg.there | apply PickSeg.seg)) | apply Sub.assoc))), ?_⟩
            refine kt_d rfl rfl rfl (v_not) ?_
            refine kt_d rfl rfl rfl (v_mv) ?_
            refine kt_gv rfl rfl rfl rfl hb31 (v_ldB Tryd.isAgg25 Tryd.sizeOf25) ?_
            refine kt_gv rfl rfl rfl rfl hb31 (v_fb fa_31_0) ?_
            refine kt_gv rfl rfl rfl rfl hb31 (v_ldb Tryd.isAgg3) ?_
            refine kt_gv rfl rfl rfl rfl hb31 (v_fb fa_25_0) ?_
            refine kt_gv rfl rfl rfl rfl hb31 (v_ldb Tryd.isAgg3) ?_
            refine kt_one ?_
            refine kl_gk rfl rfl rfl rfl hb31 (n_make (enc := encWay) (⟨0, 0, 0⟩ : Way) ej32 nj32 Tryd.underlying29 Tryd.type37 (by decide) (fun a33 => ?_))
            refine ⟨.inl (by (repeat (first | exact Sub.refl _ | exact Sub.nil _ | refine Sub.chunk (by repeat (first | exact Pick.here | apply Pick.there | apply Pick.seg)) (by rfl) ?_ | refine Sub.seg (by repeat (first | exact PickSeg.here | exact PickSeg.all | apply PickSeg.there | apply PickSeg.seg)) ?_ | exact Sub.seg0 (by repeat (first | exact PickSeg.here | exact PickSeg.all | apply PickSeg.there | apply PickSeg.seg)) | apply Sub.assoc))), ?_⟩
            refine kt_gv rfl rfl rfl rfl hb31 (v_bd [(0, _), (1, _)] [_, _] Tryd.zeroValue31 Tryd.runUnderlying31 pl_31) ?_
            refine kt_one ?_
            refine kl_gk rfl rfl rfl rfl hb31 (n_call Tryd.call22 (w_impl_FixValid q61a v4.legs.length q61c (some a33) j32 j32 hv34) ?_)
            rintro _ _ ⟨rfl, rfl⟩
            refine ⟨.inl (by (repeat (first | exact Sub.refl _ | exact Sub.nil _ | refine Sub.chunk (by repeat (first | exact Pick.here | apply Pick.there | apply Pick.seg)) (by rfl) ?_ | refine Sub.seg (by repeat (first | exact PickSeg.here | exact PickSeg.all | apply PickSeg.there | apply PickSeg.seg)) ?_ | exact Sub.seg0 (by repeat (first | exact PickSeg.here | exact PickSeg.all | apply PickSeg.there | apply PickSeg.seg)) | apply Sub.assoc))), ?_⟩
            refine kt_d rfl rfl rfl (v_pt hb31) ?_
            refine kt_d rfl rfl rfl (v_as) ?_
            refine kt_nil ?_
            refine kn_then ?_
            refine kwp_ret ?_
            obtain rfl := e_some h
            refine r1 [] ?_
            exact ⟨rfl, rfl⟩
          ·
            replace h := e_f h hb31
            refine kwp_tree (.quiet 0 (.quiet 1 (.one 2 (.quiet 3 (.quiet 4 (.quiet 5 (.quiet 6 (.quiet 7 (.quiet 8 (.quiet 9 (.one 10 (.quiet 11 (.one 12 (.quiet 13 (.quiet 14 .stop))))))))))))))) [] [⟨.pointer (some p3_8), 2, [[.int .i64 v4.st, .slice q61a v4.legs.length q61c]]⟩, ⟨.pointer (some p6_25), 2, [[.int .i64 v5.den, .slice a23 ((([] : List Way) ++ v5.nums).length) c24]]⟩] drawMixed (by kernel_rfl) nopan (by (repeat (first | exact Sub.refl _ | exact Sub.nil _ | refine Sub.chunk (by repeat (first | exact Pick.here | apply Pick.there | apply Pick.seg)) (by rfl) ?_ | refine Sub.seg (by repeat (first | exact PickSeg.here | exact PickSeg.all | apply PickSeg.there | apply PickSeg.seg)) ?_ | exact Sub.seg0 (by repeat (first | exact PickSeg.here | exact PickSeg.all | apply PickSeg.there | apply PickSeg.seg)) | apply Sub.assoc))) ?_
            refine kt_d rfl rfl rfl (v_ldB Tryd.isAgg25 Tryd.sizeOf25) ?_
            refine kt_d rfl rfl rfl (v_ldB Tryd.isAgg31 Tryd.sizeOf31) ?_
            refine kt_one ?_
            refine kl_k rfl rfl (n_call Tryd.call22 (w_impl_FixValid q61a v4.legs.length q61c a23 ((([] : List Way) ++ v5.nums).length) c24 hv28) ?_)
            rintro _ _ ⟨rfl, rfl⟩
            refine ⟨.inl (by (repeat (first | exact Sub.refl _ | exact Sub.nil _ | refine Sub.chunk (by repeat (first | exact Pick.here | apply Pick.there | apply Pick.seg)) (by rfl) ?_ | refine Sub.seg (by repeat (first | exact PickSeg.here | exact PickSeg.all | apply PickSeg.there | apply PickSeg.seg)) ?_ | exact Sub.seg0 (by repeat (first | exact PickSeg.here | exact PickSeg.all | apply PickSeg.there | apply PickSeg.seg)) | apply Sub.assoc))), ?_⟩
            refine kt_d rfl rfl rfl (v_not) ?_
            refine kt_d rfl rfl rfl (v_mv) ?_
            refine kt_skip rfl rfl rfl rfl hb31 ?_
            refine kt_skip rfl rfl rfl rfl hb31 ?_
            refine kt_skip rfl rfl rfl rfl hb31 ?_
            refine kt_skip rfl rfl rfl rfl hb31 ?_
            refine kt_skip rfl rfl rfl rfl hb31 ?_
            refine kt_one ?_
            refine kl_skip rfl rfl rfl rfl hb31 (by (repeat (first | exact Sub.refl _ | exact Sub.nil _ | refine Sub.chunk (by repeat (first | exact Pick.here | apply Pick.there | apply Pick.seg)) (by rfl) ?_ | refine Sub.seg (by repeat (first | exact PickSeg.here | exact PickSeg.all | apply PickSeg.there | apply PickSeg.seg)) ?_ | exact Sub.seg0 (by repeat (first | exact PickSeg.here | exact PickSeg.all | apply PickSeg.there | apply PickSeg.seg)) | apply Sub.assoc))) ?_
            refine kt_skip rfl rfl rfl rfl hb31 ?_
            refine kt_one ?_
            refine kl_skip rfl rfl rfl rfl hb31 (by (repeat (first | exact Sub.refl _ | exact Sub.nil _ | refine Sub.chunk (by repeat (first | exact Pick.here | apply Pick.there | apply Pick.seg)) (by rfl) ?_ | refine Sub.seg (by repeat (first | exact PickSeg.here | exact PickSeg.all | apply PickSeg.there | apply PickSeg.seg)) ?_ | exact Sub.seg0 (by repeat (first | exact PickSeg.here | exact PickSeg.all | apply PickSeg.there | apply PickSeg.seg)) | apply Sub.assoc))) ?_
            refine kt_d rfl rfl rfl (v_pf hb31) ?_
            refine kt_d rfl rfl rfl (v_as) ?_
            refine kt_nil ?_
            refine kn_then ?_
            refine kwp_ret ?_
            obtain rfl := e_some h
            refine r1 [] ?_
            exact ⟨rfl, rfl⟩

end Go.Proofs.YtnibfmofkamjoaaDoor
