/- What the plain programs return, the functions of the program return; no condition. -/
import Derived.Test.YtpfijnklnljccaaDoorQ3Widen
import Derived.Test.YtpfijnklnljccaaDoorFa
import Derived.Test.YtpfijnklnljccaaDoorVbm
import Derived.Test.YtpfijnklnljccaaDoorVbt
import Derived.Test.YtpfijnklnljccaaDoorVbp
import Derived.Test.YtpfijnklnljccaaDoorVbi
import Derived.Test.YtpfijnklnljccaaDoorVbc
namespace Go.Proofs.YtpfijnklnljccaaDoor
open Go
set_option linter.unusedVariables false
set_option linter.unusedSimpArgs false

set_option maxRecDepth 20000 in
theorem w_spec_DrawWiden (code0a : Option Addr) (code0n : Nat) (code0c : Nat) {code0 : List UInt8} {r : Mine × Int} (h : p_spec_DrawWiden code0 = some r) :
    Triple Tryd.prog 22 [.slice code0a code0n code0c] [⟨.slice code0a code0n code0c, 1, code0.map encB⟩] [] (fun v ch => ∃ (w01a : Option Addr) (w01c : Nat), v = .tuple #[.agg #[.int .i64 r.1.p, .slice w01a r.1.aw.length w01c], .int .i64 r.2] ∧ ch = [⟨.slice w01a r.1.aw.length w01c, 3, r.1.aw.map encAirway⟩]) := by
  refine triple_start 14 Tryd.func22 Tryd.ntmps22 rfl rfl (fun w0 => ?_)
  refine k_len (c := code0c) (fun hl1 => ?_)
  subst hl1
  unfold p_spec_DrawWiden at h
  refine kwp_seq ?_
  refine kwp_region ?_
  refine kops_nilchunk 3 (by decide) ?_
  refine kk (n_alloc (e := [.int .i64 0, .slice none 0 0]) 2 Tryd.zeroValue32 (fun p2_2 => ?_))
  refine kd (v_as) ?_
  refine kops_nil ?_
  refine kn_then ?_
  refine kwp_seq ?_
  refine kwp_region ?_
  refine kd (v_mv) ?_
  obtain ⟨v4, hv3, h⟩ := e_bind h
  refine kk (n_call Tryd.call57 (w_spec_l20Open code0a code0.length code0c hv3) ?_)
  rintro _ _ ⟨q5p, q50a, q50c, rfl, hvwq5, rfl⟩
  refine kd (v_as) ?_
  refine kops_nil ?_
  refine kn_then ?_
  refine kwp_seq ?_
  refine kwp_region ?_
  refine kd (v_mv) ?_
  obtain ⟨⟨v7, v8⟩, hv6, h⟩ := e_bind h
  refine kk (n_call Tryd.call62 (w_spec_l20Mine q5p q50a v4.b.length q50c hv6) ?_ (hv := (Views.cons (by repeat (first | exact mh | apply mt | apply mas | apply ms)) hvwq5 (Views.nil _))))
  rintro _ _ ⟨q91a, q91c, rfl, rfl⟩
  refine kops_nilchunk 3 (by decide) ?_
  refine kk (n_alloc (e := [.int .i64 0, .slice none 0 0]) 2 Tryd.zeroValue32 (fun p5_10 => ?_))
  refine kk (s_B (e' := [.int .i64 v7.p, .slice q91a v7.aw.length q91c]) Tryd.sizeOf32 ?_)
  refine kops_nil ?_
  refine kn_then ?_
  refine kwp_seq ?_
  obtain ⟨⟨v12, v13⟩, hv11, h⟩ := e_bind h
  refine kwp_tree (.quiet 0 (.quiet 1 (.quiet 2 (.one 3 (.one 4 (.quiet 5 .stop)))))) [] [⟨.pointer (some p5_10), 2, [[.int .i64 v7.p, .slice q91a v7.aw.length q91c]]⟩] drawMixed (by kernel_rfl) nopan (by (repeat (first | exact Sub.refl _ | exact Sub.nil _ | refine Sub.chunk (by repeat (first | exact Pick.here | apply Pick.there | apply Pick.seg)) (by rfl) ?_ | refine Sub.seg (by repeat (first | exact PickSeg.here | exact PickSeg.all | apply PickSeg.there | apply PickSeg.seg)) ?_ | exact Sub.seg0 (by repeat (first | exact PickSeg.here | exact PickSeg.all | apply PickSeg.there | apply PickSeg.seg)) | apply Sub.assoc))) ?_
  refine kt_d rfl rfl rfl (v_ldB Tryd.isAgg32 Tryd.sizeOf32) ?_
  refine kt_d rfl rfl rfl (v_mv) ?_
  refine kt_d rfl rfl rfl (v_ldB Tryd.isAgg32 Tryd.sizeOf32) ?_
  refine kt_one ?_
  refine kl_k rfl rfl (n_call Tryd.call64 (w_spec_l20Airway q5p q50a v4.b.length q50c q91a v7.aw.length q91c hv11) ?_ (hv := (Views.cons (by repeat (first | exact mh | apply mt | apply mas | apply ms)) hvwq5 (Views.cons (by repeat (first | exact mh | apply mt | apply mas | apply ms)) (View.refl _) (Views.nil _)))))
  rintro _ _ ⟨rfl, rfl⟩
  refine ⟨.inl (by (repeat (first | exact Sub.refl _ | exact Sub.nil _ | refine Sub.chunk (by repeat (first | exact Pick.here | apply Pick.there | apply Pick.seg)) (by rfl) ?_ | refine Sub.seg (by repeat (first | exact PickSeg.here | exact PickSeg.all | apply PickSeg.there | apply PickSeg.seg)) ?_ | exact Sub.seg0 (by repeat (first | exact PickSeg.here | exact PickSeg.all | apply PickSeg.there | apply PickSeg.seg)) | apply Sub.assoc))), ?_⟩
  refine kt_one ?_
  refine kl_k rfl rfl (s_B (e' := [.int .i64 v7.p, .slice q91a v7.aw.length q91c]) Tryd.sizeOf32 ?_)
  refine ⟨.inl (by (repeat (first | exact Sub.refl _ | exact Sub.nil _ | refine Sub.chunk (by repeat (first | exact Pick.here | apply Pick.there | apply Pick.seg)) (by rfl) ?_ | refine Sub.seg (by repeat (first | exact PickSeg.here | exact PickSeg.all | apply PickSeg.there | apply PickSeg.seg)) ?_ | exact Sub.seg0 (by repeat (first | exact PickSeg.here | exact PickSeg.all | apply PickSeg.there | apply PickSeg.seg)) | apply Sub.assoc))), ?_⟩
  refine kt_d rfl rfl rfl (v_as) ?_
  refine kt_nil ?_
  refine kn_then ?_
  refine kwp_ret ?_
  obtain rfl := e_some h
  refine rc1 Tryd.isAgg32 Tryd.sizeOf32 [⟨.slice q91a v7.aw.length q91c, 3, v7.aw.map encAirway⟩] ?_
  exact ⟨q91a, q91c, rfl, rfl⟩

set_option maxRecDepth 20000 in
set_option maxHeartbeats 2000000 in
theorem w_laws_FnWiden (code0a : Option Addr) (code0n : Nat) (code0c : Nat) {code0 : List UInt8} {r : Bool} (h : p_laws_FnWiden code0 = some r) :
    Triple Tryd.prog 5 [.slice code0a code0n code0c] [⟨.slice code0a code0n code0c, 1, code0.map encB⟩, tabC] [] (fun v ch => v = .bool r ∧ ch = []) := by
  refine triple_start 86 Tryd.func5 Tryd.ntmps5 rfl rfl (fun w0 => ?_)
  refine k_len (c := code0c) (fun hl1 => ?_)
  subst hl1
  unfold p_laws_FnWiden at h
  refine kwp_seq ?_
  refine kwp_region ?_
  refine kd (v_as) ?_
  refine kops_nil ?_
  refine kn_then ?_
  refine kwp_seq ?_
  refine kwp_seq ?_
  refine kwp_region ?_
  refine kd (v_mv) ?_
  refine kd (v_len Tryd.runUnderlying22) ?_
  refine kd (v_cmp) ?_
  refine kops_nil ?_
  refine kn_then ?_
  refine kwp_cond rfl (fun hc2 => ?_) (fun hc2 => ?_)
  ·
    replace h := e_t h hc2
    refine kwp_seq ?_
    refine kwp_region ?_
    refine kd (v_as) ?_
    refine kops_nil ?_
    refine kn_then ?_
    refine kwp_ret ?_
    refine kr_then ?_
    obtain rfl := e_some h
    refine r1 [] ?_
    exact ⟨rfl, rfl⟩
  ·
    replace h := e_f h hc2
    refine kwp_skip ?_
    refine kn_then ?_
    refine kwp_seq ?_
    refine kwp_region ?_
    refine kd (v_mv) ?_
    obtain ⟨⟨v4, v5⟩, hv3, h⟩ := e_bind h
    refine kk (n_call Tryd.call22 (w_spec_DrawWiden code0a code0.length code0c hv3) ?_)
    rintro _ _ ⟨q61a, q61c, rfl, rfl⟩
    refine kd (v_mv) ?_
    refine kd (v_ex) ?_
    refine kd (v_ex) ?_
    refine kops_nilchunk 3 (by decide) ?_
    refine kk (n_alloc (e := [.int .i64 0, .slice none 0 0]) 2 Tryd.zeroValue32 (fun p3_8 => ?_))
    refine kk (s_B (e' := [.int .i64 v4.p, .slice q61a v4.aw.length q61c]) Tryd.sizeOf32 ?_)
    refine kd (v_as) ?_
    refine kops_nil ?_
    refine kn_then ?_
    refine kwp_seq ?_
    refine kwp_region ?_
    refine kd (v_ldB Tryd.isAgg32 Tryd.sizeOf32) ?_
    refine kd (v_mv) ?_
    obtain ⟨⟨v10, v11⟩, hv9, h⟩ := e_bind h
    refine kk (n_call Tryd.call23 (w_impl_Widen q61a v4.aw.length q61c hv9) ?_)
    rintro _ _ ⟨q121a, q121c, rfl, rfl⟩
    refine kd (v_mv) ?_
    refine kd (v_ex) ?_
    refine kd (v_ex) ?_
    refine kops_nilchunk 3 (by decide) ?_
    refine kk (n_alloc (e := [.int .i64 0, .slice none 0 0]) 2 Tryd.zeroValue32 (fun p5_14 => ?_))
    refine kk (s_B (e' := [.int .i64 v10.p, .slice q121a v10.aw.length q121c]) Tryd.sizeOf32 ?_)
    refine kd (v_as) ?_
    refine kops_nil ?_
    refine kn_then ?_
    refine kwp_seq ?_
    refine kwp_region ?_
    refine kd (v_ldB Tryd.isAgg32 Tryd.sizeOf32) ?_
    refine kd (v_mv) ?_
    obtain ⟨⟨v16, v17⟩, hv15, h⟩ := e_bind h
    refine kk (n_call Tryd.call24 (w_spec_Widen q61a v4.aw.length q61c hv15) ?_)
    rintro _ _ ⟨q181a, q181c, rfl, rfl⟩
    refine kd (v_mv) ?_
    refine kd (v_ex) ?_
    refine kd (v_ex) ?_
    refine kops_nilchunk 3 (by decide) ?_
    refine kk (n_alloc (e := [.int .i64 0, .slice none 0 0]) 2 Tryd.zeroValue32 (fun p7_20 => ?_))
    refine kk (s_B (e' := [.int .i64 v16.p, .slice q181a v16.aw.length q181c]) Tryd.sizeOf32 ?_)
    refine kd (v_as) ?_
    refine kops_nil ?_
    refine kn_then ?_
    refine kwp_seq ?_
    refine kwp_seq ?_
    refine kwp_cutE (inv := [(3, .pointer (some p3_8)), (4, .int .i64 v5), (5, .pointer (some p5_14)), (6, .bool v11)]) (fun (z : Bool) (y : Unit) => [(38, .bool z)]) (fun (z : Bool) (y : Unit) => [⟨.pointer (some p3_8), 2, [[.int .i64 v4.p, .slice q61a v4.aw.length q61c]]⟩, ⟨.slice q61a v4.aw.length q61c, 3, v4.aw.map encAirway⟩, ⟨.pointer (some p5_14), 2, [[.int .i64 v10.p, .slice q121a v10.aw.length q121c]]⟩, ⟨.slice q121a v10.aw.length q121c, 3, v10.aw.map encAirway⟩]) (fun _ _ => True) h ?_ ?_
    · intro t24 h22
      refine kwp_region ?_
      refine kd (v_ldB Tryd.isAgg32 Tryd.sizeOf32) ?_
      refine kd (v_ldB Tryd.isAgg32 Tryd.sizeOf32) ?_
      obtain ⟨v26, hv25, h22⟩ := e_bind h22
      refine kk (n_call Tryd.call25 (w_laws_sameMine q121a v10.aw.length q121c q181a v16.aw.length q181c hv25) ?_)
      rintro _ _ ⟨rfl, rfl⟩
      refine kd (v_not) ?_
      refine kd (v_mv) ?_
      refine kops_split 34 rfl (fun hb28 => ?_) (fun hb28 => ?_)
      ·
        replace h22 := e_t h22 hb28
        refine kskip hb28 ?_
        refine kskip hb28 ?_
        refine kskip hb28 ?_
        refine kd (v_pt hb28) ?_
        refine kops_nil ?_
        refine kn_then ?_
        obtain rfl := e_some h22
        exact ⟨(), hd_mk trivial⟩
      ·
        replace h22 := e_f h22 hb28
        refine kgd hb28 (v_mv) ?_
        refine kgd hb28 (v_mv) ?_
        refine kgd hb28 (v_neb Tryd.underlying4) ?_
        refine kd (v_pf hb28) ?_
        refine kops_nil ?_
        refine kn_then ?_
        obtain rfl := e_some h22
        exact ⟨(), hd_mk trivial⟩
    · intro x21 y30 _ h31
      refine kn_then ?_
      refine kwp_cond rfl (fun hc32 => ?_) (fun hc32 => ?_)
      ·
        replace h31 := e_t h31 hc32
        refine kwp_seq ?_
        refine kwp_region ?_
        refine kd (v_as) ?_
        refine kops_nil ?_
        refine kn_then ?_
        refine kwp_ret ?_
        refine kr_then ?_
        obtain rfl := e_some h31
        refine r1 [] ?_
        exact ⟨rfl, rfl⟩
      ·
        replace h31 := e_f h31 hc32
        refine kwp_skip ?_
        refine kn_then ?_
        refine kwp_seq ?_
        refine kwp_seq ?_
        refine kwp_region ?_
        refine kd (v_mv) ?_
        refine kd (v_not) ?_
        refine kops_nil ?_
        refine kn_then ?_
        refine kwp_cond rfl (fun hc33 => ?_) (fun hc33 => ?_)
        ·
          replace h31 := e_t h31 hc33
          refine kwp_seq ?_
          refine kwp_region ?_
          refine kd (v_fb fa_32_0) ?_
          refine kd (v_ldb Tryd.isAgg3) ?_
          refine kd (v_cmp) ?_
          refine kd (v_mv) ?_
          refine kops_split 44 rfl (fun hb34 => ?_) (fun hb34 => ?_)
          ·
            replace h31 := e_t h31 hb34
            refine kgd hb34 (v_fb fa_32_1) ?_
            refine kgd hb34 (v_ldb Tryd.isAgg30) ?_
            refine kgd hb34 (v_len Tryd.runUnderlying30) ?_
            refine kgd hb34 (v_cmp) ?_
            refine kd (v_pt hb34) ?_
            refine kd (v_mv) ?_
            refine kops_split 50 rfl (fun hb35 => ?_) (fun hb35 => ?_)
            ·
              replace h31 := e_t h31 hb35
              obtain ⟨v37, hv36, h31⟩ := e_bind h31
              refine kgk hb35 (n_call Tryd.call18 (w_laws_alive hv36) ?_)
              rintro _ _ ⟨rfl, rfl⟩
              refine kd (v_pt hb35) ?_
              refine kd (v_as) ?_
              refine kops_nil ?_
              refine kn_then ?_
              refine kwp_ret ?_
              refine kr_then ?_
              obtain rfl := e_some h31
              refine r1 [] ?_
              exact ⟨rfl, rfl⟩
            ·
              replace h31 := e_f h31 hb35
              refine kskip hb35 ?_
              refine kd (v_pf hb35) ?_
              refine kd (v_as) ?_
              refine kops_nil ?_
              refine kn_then ?_
              refine kwp_ret ?_
              refine kr_then ?_
              obtain rfl := e_some h31
              refine r1 [] ?_
              exact ⟨rfl, rfl⟩
          ·
            replace h31 := e_f h31 hb34
            refine kskip hb34 ?_
            refine kskip hb34 ?_
            refine kskip hb34 ?_
            refine kskip hb34 ?_
            refine kd (v_pf hb34) ?_
            refine kd (v_mv) ?_
            refine kskip rfl ?_
            refine kd (v_pf rfl) ?_
            refine kd (v_as) ?_
            refine kops_nil ?_
            refine kn_then ?_
            refine kwp_ret ?_
            refine kr_then ?_
            obtain rfl := e_some h31
            refine r1 [] ?_
            exact ⟨rfl, rfl⟩
        ·
          replace h31 := e_f h31 hc33
          refine kwp_skip ?_
          refine kn_then ?_
          refine kwp_seq ?_
          refine kwp_nil 3 (by decide) ?_
          obtain ⟨hz40, h31⟩ := e_need h31
          refine kwp_cutS (inv := [(3, .pointer (some p3_8)), (4, .int .i64 v5), (5, .pointer (some p5_14))]) (fun (y : Option Addr × Nat × Addr) => [(9, .pointer (some y.2.2))]) (fun (y : Option Addr × Nat × Addr) => [⟨.pointer (some p3_8), 2, [[.int .i64 v4.p, .slice q61a v4.aw.length q61c]]⟩, ⟨.slice q61a v4.aw.length q61c, 3, v4.aw.map encAirway⟩, ⟨.pointer (some p5_14), 2, [[.int .i64 v10.p, .slice q121a v10.aw.length q121c]]⟩, ⟨.slice q121a v10.aw.length q121c, 3, v10.aw.map encAirway⟩, ⟨.pointer (some y.2.2), 2, [[.int .i64 v10.p, .slice y.1 ((([] : List Airway) ++ v10.aw).length) y.2.1]]⟩, ⟨.slice y.1 ((([] : List Airway) ++ v10.aw).length) y.2.1, 3, (([] : List Airway) ++ v10.aw).map encAirway⟩]) (fun (y : Option Addr × Nat × Addr) => True) ?_ ?_
          ·
            refine kwp_tree (.quiet 0 (.quiet 1 (.quiet 3 (.quiet 4 (.two 2 (.two 5 (.quiet 6 (.one 7 (.one 8 .stop))) 7 (.one 5 (.quiet 6 (.one 8 .stop)))) 7 (.one 2 (.one 5 (.quiet 6 (.one 8 .stop))))))))) [] [⟨.pointer (some p5_14), 2, [[.int .i64 v10.p, .slice q121a v10.aw.length q121c]]⟩] drawMixed (by kernel_rfl) nopan (by (repeat (first | exact Sub.refl _ | exact Sub.nil _ | refine Sub.chunk (by repeat (first | exact Pick.here | apply Pick.there | apply Pick.seg)) (by rfl) ?_ | refine Sub.seg (by repeat (first | exact PickSeg.here | exact PickSeg.all | apply PickSeg.there | apply PickSeg.seg)) ?_ | exact Sub.seg0 (by repeat (first | exact PickSeg.here | exact PickSeg.all | apply PickSeg.there | apply PickSeg.seg)) | apply Sub.assoc))) ?_
            refine kt_d rfl rfl rfl (v_fb fa_32_0) ?_
            refine kt_d rfl rfl rfl (v_ldb Tryd.isAgg3) ?_
            refine kt_d rfl rfl rfl (v_fb fa_32_1) ?_
            refine kt_d rfl rfl rfl (v_ldb Tryd.isAgg30) ?_
            refine kt_two ?_ ?_
            ·
              refine kl_k rfl rfl (n_lit (enc := encAirway) [] ([] : List Airway) Tryd.runUnderlying30 Tryd.sizeOf36 Tryd.zeroValue36 (fun a39 => ?_))
              refine ⟨.inl (by (repeat (first | exact Sub.refl _ | exact Sub.nil _ | refine Sub.chunk (by repeat (first | exact Pick.here | apply Pick.there | apply Pick.seg)) (by rfl) ?_ | refine Sub.seg (by repeat (first | exact PickSeg.here | exact PickSeg.all | apply PickSeg.there | apply PickSeg.seg)) ?_ | exact Sub.seg0 (by repeat (first | exact PickSeg.here | exact PickSeg.all | apply PickSeg.there | apply PickSeg.seg)) | apply Sub.assoc))), ?_⟩
              refine kt_two ?_ ?_
              ·
                refine kl_k rfl rfl (n_app (enc := encAirway) ok_encAirway hz40 Tryd.underlying30 Tryd.type36 (by decide) (fun a41 c42 => ?_))
                refine ⟨.inl (by (repeat (first | exact Sub.refl _ | exact Sub.nil _ | refine Sub.chunk (by repeat (first | exact Pick.here | apply Pick.there | apply Pick.seg)) (by rfl) ?_ | refine Sub.seg (by repeat (first | exact PickSeg.here | exact PickSeg.all | apply PickSeg.there | apply PickSeg.seg)) ?_ | exact Sub.seg0 (by repeat (first | exact PickSeg.here | exact PickSeg.all | apply PickSeg.there | apply PickSeg.seg)) | apply Sub.assoc))), ?_⟩
                refine kt_d rfl rfl rfl (v_bd [(0, _), (1, _)] [_, _] Tryd.zeroValue32 Tryd.runUnderlying32 pl_32) ?_
                refine kt_one ?_
                refine kl_k rfl rfl (n_alloc (e := [.int .i64 0, .slice none 0 0]) 2 Tryd.zeroValue32 (fun p9_43 => ?_))
                refine ⟨.inl (by (repeat (first | exact Sub.refl _ | exact Sub.nil _ | refine Sub.chunk (by repeat (first | exact Pick.here | apply Pick.there | apply Pick.seg)) (by rfl) ?_ | refine Sub.seg (by repeat (first | exact PickSeg.here | exact PickSeg.all | apply PickSeg.there | apply PickSeg.seg)) ?_ | exact Sub.seg0 (by repeat (first | exact PickSeg.here | exact PickSeg.all | apply PickSeg.there | apply PickSeg.seg)) | apply Sub.assoc))), ?_⟩
                refine kt_one ?_
                refine kl_k rfl rfl (s_B (e' := [.int .i64 v10.p, .slice a41 ((([] : List Airway) ++ v10.aw).length) c42]) Tryd.sizeOf32 ?_)
                refine ⟨.inl (by (repeat (first | exact Sub.refl _ | exact Sub.nil _ | refine Sub.chunk (by repeat (first | exact Pick.here | apply Pick.there | apply Pick.seg)) (by rfl) ?_ | refine Sub.seg (by repeat (first | exact PickSeg.here | exact PickSeg.all | apply PickSeg.there | apply PickSeg.seg)) ?_ | exact Sub.seg0 (by repeat (first | exact PickSeg.here | exact PickSeg.all | apply PickSeg.there | apply PickSeg.seg)) | apply Sub.assoc))), ?_⟩
                refine kt_nil ?_
                refine kn_then ?_
                exact ⟨(a41, c42, p9_43), hd_mk trivial⟩
              ·
                refine kl_k rfl rfl (n_alloc (e := [.int .i64 0, .slice none 0 0]) 2 Tryd.zeroValue32 (fun p9_43 => ?_))
                refine ⟨.inl (by (repeat (first | exact Sub.refl _ | exact Sub.nil _ | refine Sub.chunk (by repeat (first | exact Pick.here | apply Pick.there | apply Pick.seg)) (by rfl) ?_ | refine Sub.seg (by repeat (first | exact PickSeg.here | exact PickSeg.all | apply PickSeg.there | apply PickSeg.seg)) ?_ | exact Sub.seg0 (by repeat (first | exact PickSeg.here | exact PickSeg.all | apply PickSeg.there | apply PickSeg.seg)) | apply Sub.assoc))), ?_⟩
                refine kt_one ?_
                refine kl_k rfl rfl (n_app (enc := encAirway) ok_encAirway hz40 Tryd.underlying30 Tryd.type36 (by decide) (fun a41 c42 => ?_))
                refine ⟨.inl (by (repeat (first | exact Sub.refl _ | exact Sub.nil _ | refine Sub.chunk (by repeat (first | exact Pick.here | apply Pick.there | apply Pick.seg)) (by rfl) ?_ | refine Sub.seg (by repeat (first | exact PickSeg.here | exact PickSeg.all | apply PickSeg.there | apply PickSeg.seg)) ?_ | exact Sub.seg0 (by repeat (first | exact PickSeg.here | exact PickSeg.all | apply PickSeg.there | apply PickSeg.seg)) | apply Sub.assoc))), ?_⟩
                refine kt_d rfl rfl rfl (v_bd [(0, _), (1, _)] [_, _] Tryd.zeroValue32 Tryd.runUnderlying32 pl_32) ?_
                refine kt_one ?_
                refine kl_k rfl rfl (s_B (e' := [.int .i64 v10.p, .slice a41 ((([] : List Airway) ++ v10.aw).length) c42]) Tryd.sizeOf32 ?_)
                refine ⟨.inl (by (repeat (first | exact Sub.refl _ | exact Sub.nil _ | refine Sub.chunk (by repeat (first | exact Pick.here | apply Pick.there | apply Pick.seg)) (by rfl) ?_ | refine Sub.seg (by repeat (first | exact PickSeg.here | exact PickSeg.all | apply PickSeg.there | apply PickSeg.seg)) ?_ | exact Sub.seg0 (by repeat (first | exact PickSeg.here | exact PickSeg.all | apply PickSeg.there | apply PickSeg.seg)) | apply Sub.assoc))), ?_⟩
                refine kt_nil ?_
                refine kn_then ?_
                exact ⟨(a41, c42, p9_43), hd_mk trivial⟩
            ·
              refine kl_k rfl rfl (n_alloc (e := [.int .i64 0, .slice none 0 0]) 2 Tryd.zeroValue32 (fun p9_43 => ?_))
              refine ⟨.inl (by (repeat (first | exact Sub.refl _ | exact Sub.nil _ | refine Sub.chunk (by repeat (first | exact Pick.here | apply Pick.there | apply Pick.seg)) (by rfl) ?_ | refine Sub.seg (by repeat (first | exact PickSeg.here | exact PickSeg.all | apply PickSeg.there | apply PickSeg.seg)) ?_ | exact Sub.seg0 (by repeat (first | exact PickSeg.here | exact PickSeg.all | apply PickSeg.there | apply PickSeg.seg)) | apply Sub.assoc))), ?_⟩
              refine kt_one ?_
              refine kl_k rfl rfl (n_lit (enc := encAirway) [] ([] : List Airway) Tryd.runUnderlying30 Tryd.sizeOf36 Tryd.zeroValue36 (fun a39 => ?_))
              refine ⟨.inl (by (repeat (first | exact Sub.refl _ | exact Sub.nil _ | refine Sub.chunk (by repeat (first | exact Pick.here | apply Pick.there | apply Pick.seg)) (by rfl) ?_ | refine Sub.seg (by repeat (first | exact PickSeg.here | exact PickSeg.all | apply PickSeg.there | apply PickSeg.seg)) ?_ | exact Sub.seg0 (by repeat (first | exact PickSeg.here | exact PickSeg.all | apply PickSeg.there | apply PickSeg.seg)) | apply Sub.assoc))), ?_⟩
              refine kt_one ?_
              refine kl_k rfl rfl (n_app (enc := encAirway) ok_encAirway hz40 Tryd.underlying30 Tryd.type36 (by decide) (fun a41 c42 => ?_))
              refine ⟨.inl (by (repeat (first | exact Sub.refl _ | exact Sub.nil _ | refine Sub.chunk (by repeat (first | exact Pick.here | apply Pick.there | apply Pick.seg)) (by rfl) ?_ | refine Sub.seg (by repeat (first | exact PickSeg.here | exact PickSeg.all | apply PickSeg.there | apply PickSeg.seg)) ?_ | exact Sub.seg0 (by repeat (first | exact PickSeg.here | exact PickSeg.all | apply PickSeg.there | apply PickSeg.seg)) | apply Sub.assoc))), ?_⟩
              refine kt_d rfl rfl rfl (v_bd [(0, _), (1, _)] [_, _] Tryd.zeroValue32 Tryd.runUnderlying32 pl_32) ?_
              refine kt_one ?_
              refine kl_k rfl rfl (s_B (e' := [.int .i64 v10.p, .slice a41 ((([] : List Airway) ++ v10.aw).length) c42]) Tryd.sizeOf32 ?_)
              refine ⟨.inl (by (repeat (first | exact Sub.refl _ | exact Sub.nil _ | refine Sub.chunk (by repeat (first | exact Pick.here | apply Pick.there | apply Pick.seg)) (by rfl) ?_ | refine Sub.seg (by repeat (first | exact PickSeg.here | exact PickSeg.all | apply PickSeg.there | apply PickSeg.seg)) ?_ | exact Sub.seg0 (by repeat (first | exact PickSeg.here | exact PickSeg.all | apply PickSeg.there | apply PickSeg.seg)) | apply Sub.assoc))), ?_⟩
              refine kt_nil ?_
              refine kn_then ?_
              exact ⟨(a41, c42, p9_43), hd_mk trivial⟩
          · intro y44 _
            obtain ⟨a41, c42, p9_43⟩ := y44
            refine kn_then ?_
            refine kwp_seq ?_
            obtain ⟨j45, ej45, nj45, h31⟩ := e_idx h31
            refine kwp_tree (.quiet 0 (.quiet 1 (.quiet 2 (.quiet 3 (.quiet 4 (.quiet 5 (.quiet 6 (.quiet 7 (.quiet 8 (.quiet 9 (.quiet 10 (.quiet 11 (.one 12 .stop))))))))))))) [12] [⟨.slice a41 ((([] : List Airway) ++ v10.aw).length) c42, 3, (([] : List Airway) ++ v10.aw).map encAirway⟩, ⟨.pointer (some p9_43), 2, [[.int .i64 v10.p, .slice a41 ((([] : List Airway) ++ v10.aw).length) c42]]⟩] drawMixed (by kernel_rfl) nopan (by (repeat (first | exact Sub.refl _ | exact Sub.nil _ | refine Sub.chunk (by repeat (first | exact Pick.here | apply Pick.there | apply Pick.seg)) (by rfl) ?_ | refine Sub.seg (by repeat (first | exact PickSeg.here | exact PickSeg.all | apply PickSeg.there | apply PickSeg.seg)) ?_ | exact Sub.seg0 (by repeat (first | exact PickSeg.here | exact PickSeg.all | apply PickSeg.there | apply PickSeg.seg)) | apply Sub.assoc))) ?_
            refine kt_d rfl rfl rfl (v_fb fa_32_1) ?_
            refine kt_d rfl rfl rfl (v_ldb Tryd.isAgg30) ?_
            refine kt_d rfl rfl rfl (v_mv) ?_
            refine kt_d rfl rfl rfl (v_fb fa_32_1) ?_
            refine kt_d rfl rfl rfl (v_ldb Tryd.isAgg30) ?_
            refine kt_d rfl rfl rfl (v_mv) ?_
            refine kt_d rfl rfl rfl (v_ia ej45 nj45 Tryd.runUnderlying30 Tryd.sizeOf36) ?_
            refine kt_d rfl rfl rfl (v_fa nj45 fa_36_2) ?_
            refine kt_d rfl rfl rfl (v_ldf nj45 Tryd.isAgg3) ?_
            refine kt_d rfl rfl rfl (v_sub) ?_
            refine kt_d rfl rfl rfl (v_ia ej45 nj45 Tryd.runUnderlying30 Tryd.sizeOf36) ?_
            refine kt_d rfl rfl rfl (v_fa nj45 fa_36_2) ?_
            refine kt_one ?_
            refine kl_k rfl rfl (s_f { gx (([] : List Airway) ++ v10.aw) j45 with w := w64 (((gx (([] : List Airway) ++ v10.aw) j45).w) - 1) } nj45 Tryd.sizeOf3 ?_)
            refine ⟨.inr ⟨by decide, rfl⟩, ?_⟩
            refine kt_nil ?_
            refine kn_then ?_
            refine kwp_seq ?_
            obtain ⟨v47, hv46, h31⟩ := e_bind h31
            refine sp v47 (fun hb49 => ?_) (fun hb49 => ?_)
            ·
              replace h31 := e_t h31 hb49
              obtain ⟨v51, hv50, h31⟩ := e_bind h31
              refine sp v51 (fun hb53 => ?_) (fun hb53 => ?_)
              ·
                replace h31 := e_t h31 hb53
                obtain ⟨v55, hv54, h31⟩ := e_bind h31
                obtain ⟨v58, hv57, h31⟩ := e_bind h31
                refine kwp_tree (.quiet 0 (.one 1 (.quiet 2 (.quiet 3 (.quiet 4 (.one 5 (.quiet 6 (.quiet 7 (.quiet 8 (.quiet 10 (.one 9 (.one 11 (.quiet 12 (.quiet 13 (.quiet 14 .stop))))))))))))))) [] [⟨.pointer (some p3_8), 2, [[.int .i64 v4.p, .slice q61a v4.aw.length q61c]]⟩, ⟨.pointer (some p5_14), 2, [[.int .i64 v10.p, .slice q121a v10.aw.length q121c]]⟩, ⟨.pointer (some p9_43), 2, [[.int .i64 v10.p, .slice a41 ((([] : List Airway) ++ v10.aw).length) c42]]⟩] drawMixed (by kernel_rfl) nopan (by (repeat (first | exact Sub.refl _ | exact Sub.nil _ | refine Sub.chunk (by repeat (first | exact Pick.here | apply Pick.there | apply Pick.seg)) (by rfl) ?_ | refine Sub.seg (by repeat (first | exact PickSeg.here | exact PickSeg.all | apply PickSeg.there | apply PickSeg.seg)) ?_ | exact Sub.seg0 (by repeat (first | exact PickSeg.here | exact PickSeg.all | apply PickSeg.there | apply PickSeg.seg)) | apply Sub.assoc))) ?_
                refine kt_d rfl rfl rfl (v_ldB Tryd.isAgg32 Tryd.sizeOf32) ?_
                refine kt_one ?_
                refine kl_k rfl rfl (n_call Tryd.call20 (w_impl_MineValid q121a v10.aw.length q121c hv46) ?_)
                rintro _ _ ⟨rfl, rfl⟩
                refine ⟨.inl (by (repeat (first | exact Sub.refl _ | exact Sub.nil _ | refine Sub.chunk (by repeat (first | exact Pick.here | apply Pick.there | apply Pick.seg)) (by rfl) ?_ | refine Sub.seg (by repeat (first | exact PickSeg.here | exact PickSeg.all | apply PickSeg.there | apply PickSeg.seg)) ?_ | exact Sub.seg0 (by repeat (first | exact PickSeg.here | exact PickSeg.all | apply PickSeg.there | apply PickSeg.seg)) | apply Sub.assoc))), ?_⟩
                refine kt_d rfl rfl rfl (v_mv) ?_
                refine kt_gv rfl rfl rfl rfl hb49 (v_ldB Tryd.isAgg32 Tryd.sizeOf32) ?_
                refine kt_gv rfl rfl rfl rfl hb49 (v_ldB Tryd.isAgg32 Tryd.sizeOf32) ?_
                refine kt_one ?_
                refine kl_gk rfl rfl rfl rfl hb49 (n_call Tryd.call25 (w_laws_sameMine a41 ((([] : List Airway) ++ v10.aw).length) c42 q61a v4.aw.length q61c hv50) ?_)
                rintro _ _ ⟨rfl, rfl⟩
                refine ⟨.inl (by (repeat (first | exact Sub.refl _ | exact Sub.nil _ | refine Sub.chunk (by repeat (first | exact Pick.here | apply Pick.there | apply Pick.seg)) (by rfl) ?_ | refine Sub.seg (by repeat (first | exact PickSeg.here | exact PickSeg.all | apply PickSeg.there | apply PickSeg.seg)) ?_ | exact Sub.seg0 (by repeat (first | exact PickSeg.here | exact PickSeg.all | apply PickSeg.there | apply PickSeg.seg)) | apply Sub.assoc))), ?_⟩
                refine kt_d rfl rfl rfl (v_pt hb49) ?_
                refine kt_d rfl rfl rfl (v_mv) ?_
                refine kt_gv rfl rfl rfl rfl hb53 (v_ldB Tryd.isAgg32 Tryd.sizeOf32) ?_
                refine kt_gv rfl rfl rfl rfl hb53 (v_ldB Tryd.isAgg32 Tryd.sizeOf32) ?_
                refine kt_one ?_
                refine kl_gk rfl rfl rfl rfl hb53 (n_call Tryd.call26 (w_impl_AirLinked q121a v10.aw.length q121c hv54) ?_)
                rintro _ _ ⟨rfl, rfl⟩
                refine ⟨.inl (by (repeat (first | exact Sub.refl _ | exact Sub.nil _ | refine Sub.chunk (by repeat (first | exact Pick.here | apply Pick.there | apply Pick.seg)) (by rfl) ?_ | refine Sub.seg (by repeat (first | exact PickSeg.here | exact PickSeg.all | apply PickSeg.there | apply PickSeg.seg)) ?_ | exact Sub.seg0 (by repeat (first | exact PickSeg.here | exact PickSeg.all | apply PickSeg.there | apply PickSeg.seg)) | apply Sub.assoc))), ?_⟩
                refine kt_one ?_
                refine kl_gk rfl rfl rfl rfl hb53 (n_call Tryd.call26 (w_impl_AirLinked q61a v4.aw.length q61c hv57) ?_)
                rintro _ _ ⟨rfl, rfl⟩
                refine ⟨.inl (by (repeat (first | exact Sub.refl _ | exact Sub.nil _ | refine Sub.chunk (by repeat (first | exact Pick.here | apply Pick.there | apply Pick.seg)) (by rfl) ?_ | refine Sub.seg (by repeat (first | exact PickSeg.here | exact PickSeg.all | apply PickSeg.there | apply PickSeg.seg)) ?_ | exact Sub.seg0 (by repeat (first | exact PickSeg.here | exact PickSeg.all | apply PickSeg.there | apply PickSeg.seg)) | apply Sub.assoc))), ?_⟩
                refine kt_gv rfl rfl rfl rfl hb53 (v_eqb Tryd.underlying4) ?_
                refine kt_d rfl rfl rfl (v_pt hb53) ?_
                refine kt_d rfl rfl rfl (v_as) ?_
                refine kt_nil ?_
                refine kn_then ?_
                refine kwp_ret ?_
                obtain rfl := e_some h31
                refine r1 [] ?_
                exact ⟨rfl, rfl⟩
              ·
                replace h31 := e_f h31 hb53
                refine kwp_tree (.quiet 0 (.one 1 (.quiet 2 (.quiet 3 (.quiet 4 (.one 5 (.quiet 6 (.quiet 7 (.quiet 8 (.quiet 10 (.one 9 (.one 11 (.quiet 12 (.quiet 13 (.quiet 14 .stop))))))))))))))) [] [⟨.pointer (some p3_8), 2, [[.int .i64 v4.p, .slice q61a v4.aw.length q61c]]⟩, ⟨.pointer (some p5_14), 2, [[.int .i64 v10.p, .slice q121a v10.aw.length q121c]]⟩, ⟨.pointer (some p9_43), 2, [[.int .i64 v10.p, .slice a41 ((([] : List Airway) ++ v10.aw).length) c42]]⟩] drawMixed (by kernel_rfl) nopan (by (repeat (first | exact Sub.refl _ | exact Sub.nil _ | refine Sub.chunk (by repeat (first | exact Pick.here | apply Pick.there | apply Pick.seg)) (by rfl) ?_ | refine Sub.seg (by repeat (first | exact PickSeg.here | exact PickSeg.all | apply PickSeg.there | apply PickSeg.seg)) ?_ | exact Sub.seg0 (by repeat (first | exact PickSeg.here | exact PickSeg.all | apply PickSeg.there | apply PickSeg.seg)) | apply Sub.assoc))) ?_
                refine kt_d rfl rfl rfl (v_ldB Tryd.isAgg32 Tryd.sizeOf32) ?_
                refine kt_one ?_
                refine kl_k rfl rfl (n_call Tryd.call20 (w_impl_MineValid q121a v10.aw.length q121c hv46) ?_)
                rintro _ _ ⟨rfl, rfl⟩
                refine ⟨.inl (by (repeat (first | exact Sub.refl _ | exact Sub.nil _ | refine Sub.chunk (by repeat (first | exact Pick.here | apply Pick.there | apply Pick.seg)) (by rfl) ?_ | refine Sub.seg (by repeat (first | exact PickSeg.here | exact PickSeg.all | apply PickSeg.there | apply PickSeg.seg)) ?_ | exact Sub.seg0 (by repeat (first | exact PickSeg.here | exact PickSeg.all | apply PickSeg.there | apply PickSeg.seg)) | apply Sub.assoc))), ?_⟩
                refine kt_d rfl rfl rfl (v_mv) ?_
                refine kt_gv rfl rfl rfl rfl hb49 (v_ldB Tryd.isAgg32 Tryd.sizeOf32) ?_
                refine kt_gv rfl rfl rfl rfl hb49 (v_ldB Tryd.isAgg32 Tryd.sizeOf32) ?_
                refine kt_one ?_
                refine kl_gk rfl rfl rfl rfl hb49 (n_call Tryd.call25 (w_laws_sameMine a41 ((([] : List Airway) ++ v10.aw).length) c42 q61a v4.aw.length q61c hv50) ?_)
                rintro _ _ ⟨rfl, rfl⟩
                refine ⟨.inl (by (repeat (first | exact Sub.refl _ | exact Sub.nil _ | refine Sub.chunk (by repeat (first | exact Pick.here | apply Pick.there | apply Pick.seg)) (by rfl) ?_ | refine Sub.seg (by repeat (first | exact PickSeg.here | exact PickSeg.all | apply PickSeg.there | apply PickSeg.seg)) ?_ | exact Sub.seg0 (by repeat (first | exact PickSeg.here | exact PickSeg.all | apply PickSeg.there | apply PickSeg.seg)) | apply Sub.assoc))), ?_⟩
                refine kt_d rfl rfl rfl (v_pt hb49) ?_
                refine kt_d rfl rfl rfl (v_mv) ?_
                refine kt_skip rfl rfl rfl rfl hb53 ?_
                refine kt_skip rfl rfl rfl rfl hb53 ?_
                refine kt_one ?_
                refine kl_skip rfl rfl rfl rfl hb53 (by (repeat (first | exact Sub.refl _ | exact Sub.nil _ | refine Sub.chunk (by repeat (first | exact Pick.here | apply Pick.there | apply Pick.seg)) (by rfl) ?_ | refine Sub.seg (by repeat (first | exact PickSeg.here | exact PickSeg.all | apply PickSeg.there | apply PickSeg.seg)) ?_ | exact Sub.seg0 (by repeat (first | exact PickSeg.here | exact PickSeg.all | apply PickSeg.there | apply PickSeg.seg)) | apply Sub.assoc))) ?_
                refine kt_one ?_
                refine kl_skip rfl rfl rfl rfl hb53 (by (repeat (first | exact Sub.refl _ | exact Sub.nil _ | refine Sub.chunk (by repeat (first | exact Pick.here | apply Pick.there | apply Pick.seg)) (by rfl) ?_ | refine Sub.seg (by repeat (first | exact PickSeg.here | exact PickSeg.all | apply PickSeg.there | apply PickSeg.seg)) ?_ | exact Sub.seg0 (by repeat (first | exact PickSeg.here | exact PickSeg.all | apply PickSeg.there | apply PickSeg.seg)) | apply Sub.assoc))) ?_
                refine kt_skip rfl rfl rfl rfl hb53 ?_
                refine kt_d rfl rfl rfl (v_pf hb53) ?_
                refine kt_d rfl rfl rfl (v_as) ?_
                refine kt_nil ?_
                refine kn_then ?_
                refine kwp_ret ?_
                obtain rfl := e_some h31
                refine r1 [] ?_
                exact ⟨rfl, rfl⟩
            ·
              replace h31 := e_f h31 hb49
              refine kwp_tree (.quiet 0 (.one 1 (.quiet 2 (.quiet 3 (.quiet 4 (.one 5 (.quiet 6 (.quiet 7 (.quiet 8 (.quiet 10 (.one 9 (.one 11 (.quiet 12 (.quiet 13 (.quiet 14 .stop))))))))))))))) [] [⟨.pointer (some p5_14), 2, [[.int .i64 v10.p, .slice q121a v10.aw.length q121c]]⟩] drawMixed (by kernel_rfl) nopan (by (repeat (first | exact Sub.refl _ | exact Sub.nil _ | refine Sub.chunk (by repeat (first | exact Pick.here | apply Pick.there | apply Pick.seg)) (by rfl) ?_ | refine Sub.seg (by repeat (first | exact PickSeg.here | exact PickSeg.all | apply PickSeg.there | apply PickSeg.seg)) ?_ | exact Sub.seg0 (by repeat (first | exact PickSeg.here | exact PickSeg.all | apply PickSeg.there | apply PickSeg.seg)) | apply Sub.assoc))) ?_
              refine kt_d rfl rfl rfl (v_ldB Tryd.isAgg32 Tryd.sizeOf32) ?_
              refine kt_one ?_
              refine kl_k rfl rfl (n_call Tryd.call20 (w_impl_MineValid q121a v10.aw.length q121c hv46) ?_)
              rintro _ _ ⟨rfl, rfl⟩
              refine ⟨.inl (by (repeat (first | exact Sub.refl _ | exact Sub.nil _ | refine Sub.chunk (by repeat (first | exact Pick.here | apply Pick.there | apply Pick.seg)) (by rfl) ?_ | refine Sub.seg (by repeat (first | exact PickSeg.here | exact PickSeg.all | apply PickSeg.there | apply PickSeg.seg)) ?_ | exact Sub.seg0 (by repeat (first | exact PickSeg.here | exact PickSeg.all | apply PickSeg.there | apply PickSeg.seg)) | apply Sub.assoc))), ?_⟩
              refine kt_d rfl rfl rfl (v_mv) ?_
              refine kt_skip rfl rfl rfl rfl hb49 ?_
              refine kt_skip rfl rfl rfl rfl hb49 ?_
              refine kt_one ?_
              refine kl_skip rfl rfl rfl rfl hb49 (by (repeat (first | exact Sub.refl _ | exact Sub.nil _ | refine Sub.chunk (by repeat (first | exact Pick.here | apply Pick.there | apply Pick.seg)) (by rfl) ?_ | refine Sub.seg (by repeat (first | exact PickSeg.here | exact PickSeg.all | apply PickSeg.there | apply PickSeg.seg)) ?_ | exact Sub.seg0 (by repeat (first | exact PickSeg.here | exact PickSeg.all | apply PickSeg.there | apply PickSeg.seg)) | apply Sub.assoc))) ?_
              refine kt_d rfl rfl rfl (v_pf hb49) ?_
              refine kt_d rfl rfl rfl (v_mv) ?_
              refine kt_skip rfl rfl rfl rfl rfl ?_
              refine kt_skip rfl rfl rfl rfl rfl ?_
              refine kt_one ?_
              refine kl_skip rfl rfl rfl rfl rfl (by (repeat (first | exact Sub.refl _ | exact Sub.nil _ | refine Sub.chunk (by repeat (first | exact Pick.here | apply Pick.there | apply Pick.seg)) (by rfl) ?_ | refine Sub.seg (by repeat (first | exact PickSeg.here | exact PickSeg.all | apply PickSeg.there | apply PickSeg.seg)) ?_ | exact Sub.seg0 (by repeat (first | exact PickSeg.here | exact PickSeg.all | apply PickSeg.there | apply PickSeg.seg)) | apply Sub.assoc))) ?_
              refine kt_one ?_
              refine kl_skip rfl rfl rfl rfl rfl (by (repeat (first | exact Sub.refl _ | exact Sub.nil _ | refine Sub.chunk (by repeat (first | exact Pick.here | apply Pick.there | apply Pick.seg)) (by rfl) ?_ | refine Sub.seg (by repeat (first | exact PickSeg.here | exact PickSeg.all | apply PickSeg.there | apply PickSeg.seg)) ?_ | exact Sub.seg0 (by repeat (first | exact PickSeg.here | exact PickSeg.all | apply PickSeg.there | apply PickSeg.seg)) | apply Sub.assoc))) ?_
              refine kt_skip rfl rfl rfl rfl rfl ?_
              refine kt_d rfl rfl rfl (v_pf rfl) ?_
              refine kt_d rfl rfl rfl (v_as) ?_
              refine kt_nil ?_
              refine kn_then ?_
              refine kwp_ret ?_
              obtain rfl := e_some h31
              refine r1 [] ?_
              exact ⟨rfl, rfl⟩

end Go.Proofs.YtpfijnklnljccaaDoor
