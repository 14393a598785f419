/- What the plain programs return, the functions of the program return; no condition. -/
import Derived.Test.YtkedammjdldloaaQ2Pressures
import Derived.Test.YtkedammjdldloaaFa
import Derived.Test.YtkedammjdldloaaVea
import Derived.Test.YtkedammjdldloaaVei
import Derived.Test.YtkedammjdldloaaVbs
namespace Go.Proofs.Ytkedammjdldloaa
open Go
set_option linter.unusedVariables false
set_option linter.unusedSimpArgs false

set_option maxRecDepth 20000 in
set_option maxHeartbeats 2000000 in
theorem w_laws_FnExactPressures (aM01a : Option Addr) (aM01n : Nat) (aM01c : Nat) {aM0 : Mine} {aIn0 : Int} {aOut0 : Int} {r : Bool} (h : p_laws_FnExactPressures aM0 aIn0 aOut0 = some r) :
    Triple Try.prog 7 [.agg #[.int .i64 aM0.p, .slice aM01a aM01n aM01c], .int .i64 aIn0, .int .i64 aOut0] [⟨.slice aM01a aM01n aM01c, 3, aM0.aw.map encAirway⟩] [] (fun v ch => v = .bool r ∧ ch = []) := by
  refine triple_start 106 Try.func7 Try.ntmps7 rfl rfl (fun w0 => ?_)
  refine k_len (c := aM01c) (fun hl1 => ?_)
  subst hl1
  unfold p_laws_FnExactPressures at h
  refine kwp_seq ?_
  refine kwp_region ?_
  refine kk (n_box (e := [.int .i64 aM0.p, .slice aM01a aM0.aw.length aM01c]) 2 (fun p3_2 => ?_))
  refine kd (v_as) ?_
  refine kops_nil ?_
  refine kn_then ?_
  refine kwp_seq ?_
  refine kwp_region ?_
  refine kd (v_as) ?_
  refine kops_nil ?_
  refine kn_then ?_
  refine kwp_seq ?_
  refine kwp_region ?_
  refine kd (v_ldB Try.isAgg24 Try.sizeOf24) ?_
  refine kd (v_mv) ?_
  obtain ⟨v4, hv3, h⟩ := e_bind h
  refine kk (n_call Try.call13 (w_laws_szMine aM01a aM0.aw.length aM01c hv3) ?_)
  rintro _ _ ⟨rfl, rfl⟩
  refine kd (v_as) ?_
  refine kops_nil ?_
  refine kn_then ?_
  refine kwp_seq ?_
  refine kwp_seq ?_
  refine kwp_region ?_
  refine kd (v_mv) ?_
  refine kd (v_cmp) ?_
  refine kops_nil ?_
  refine kn_then ?_
  refine kwp_cond rfl (fun hc6 => ?_) (fun hc6 => ?_)
  ·
    replace h := e_t h hc6
    refine kwp_seq ?_
    refine kwp_region ?_
    refine kd (v_as) ?_
    refine kops_nil ?_
    refine kn_then ?_
    refine kwp_ret ?_
    refine kr_then ?_
    obtain rfl := e_some h
    refine r1 [] ?_
    exact ⟨rfl, rfl⟩
  ·
    replace h := e_f h hc6
    refine kwp_skip ?_
    refine kn_then ?_
    refine kwp_seq ?_
    refine kwp_region ?_
    refine kd (v_ldB Try.isAgg24 Try.sizeOf24) ?_
    obtain ⟨v8, hv7, h⟩ := e_bind h
    refine kk (n_call Try.call15 (w_laws_toMine aM01a aM0.aw.length aM01c hv7) ?_)
    rintro _ _ ⟨q91a, q91c, rfl, rfl⟩
    refine kd (v_mv) ?_
    refine kd (v_mv) ?_
    obtain ⟨⟨v11, v12⟩, hv10, h⟩ := e_bind h
    refine kk (n_call Try.call32 (w_spec_Pressures q91a v8.aw.length q91c hv10) ?_)
    rintro _ _ ⟨q13a, q13c, rfl, rfl⟩
    refine kd (v_mv) ?_
    refine kd (v_ex) ?_
    refine kd (v_ex) ?_
    refine kd (v_as) ?_
    refine kd (v_as) ?_
    refine kops_nil ?_
    refine kn_then ?_
    refine kwp_seq ?_
    refine kwp_region ?_
    refine kd (v_ldB Try.isAgg24 Try.sizeOf24) ?_
    obtain ⟨v16, hv15, h⟩ := e_bind h
    refine kk (n_call Try.call15 (w_laws_toMine aM01a aM0.aw.length aM01c hv15) ?_)
    rintro _ _ ⟨q171a, q171c, rfl, rfl⟩
    refine kops_nilchunk 3 (by decide) ?_
    refine kk (n_alloc (e := [.int .i64 0, .slice none 0 0]) 2 Try.zeroValue29 (fun p10_18 => ?_))
    refine kk (s_B (e' := [.int .i64 v16.p, .slice q171a v16.aw.length q171c]) Try.sizeOf29 ?_)
    refine kops_nil ?_
    refine kn_then ?_
    refine kwp_seq ?_
    refine kwp_region ?_
    refine kd (v_ldB Try.isAgg29 Try.sizeOf29) ?_
    refine kd (v_mv) ?_
    refine kd (v_mv) ?_
    obtain ⟨⟨v20, v21⟩, hv19, h⟩ := e_bind h
    refine kk (n_call Try.call33 (w_impl_Pressures q171a v16.aw.length q171c hv19) ?_)
    rintro _ _ ⟨q22a, q22c, rfl, rfl⟩
    refine kd (v_mv) ?_
    refine kd (v_ex) ?_
    refine kd (v_ex) ?_
    refine kd (v_as) ?_
    refine kd (v_as) ?_
    refine kops_nil ?_
    refine kn_then ?_
    refine kwp_seq ?_
    refine kwp_seq ?_
    refine kwp_cutE (inv := [(1, .int .i64 aIn0), (2, .int .i64 aOut0), (3, .pointer (some p3_2)), (8, .slice q13a v11.length q13c), (9, .bool v12), (10, .pointer (some p10_18)), (11, .slice q22a v20.length q22c), (12, .bool v21)]) (fun (z : Bool) (y : Unit) => [(48, .bool z)]) (fun (z : Bool) (y : Unit) => [⟨.pointer (some p3_2), 2, [[.int .i64 aM0.p, .slice aM01a aM0.aw.length aM01c]]⟩, ⟨.slice q13a v11.length q13c, 1, v11.map encI⟩, ⟨.pointer (some p10_18), 2, [[.int .i64 v16.p, .slice q171a v16.aw.length q171c]]⟩, ⟨.slice q171a v16.aw.length q171c, 3, v16.aw.map encAirway⟩, ⟨.slice q22a v20.length q22c, 1, v20.map encI⟩]) (fun _ _ => True) h ?_ ?_
    · intro t27 h25
      refine kwp_region ?_
      refine kd (v_mv) ?_
      refine kd (v_mv) ?_
      obtain ⟨v29, hv28, h25⟩ := e_bind h25
      refine kk (n_call Try.call34 (w_laws_eqIntS q22a v20.length q22c q13a v11.length q13c hv28) ?_)
      rintro _ _ ⟨rfl, rfl⟩
      refine kd (v_not) ?_
      refine kd (v_mv) ?_
      refine kops_split 44 rfl (fun hb31 => ?_) (fun hb31 => ?_)
      ·
        replace h25 := e_t h25 hb31
        refine kskip hb31 ?_
        refine kskip hb31 ?_
        refine kskip hb31 ?_
        refine kd (v_pt hb31) ?_
        refine kops_nil ?_
        refine kn_then ?_
        obtain rfl := e_some h25
        exact ⟨(), hd_mk trivial⟩
      ·
        replace h25 := e_f h25 hb31
        refine kgd hb31 (v_mv) ?_
        refine kgd hb31 (v_mv) ?_
        refine kgd hb31 (v_neb Try.underlying4) ?_
        refine kd (v_pf hb31) ?_
        refine kops_nil ?_
        refine kn_then ?_
        obtain rfl := e_some h25
        exact ⟨(), hd_mk trivial⟩
    · intro x24 y33 _ h34
      refine kn_then ?_
      refine kwp_cond rfl (fun hc35 => ?_) (fun hc35 => ?_)
      ·
        replace h34 := e_t h34 hc35
        refine kwp_seq ?_
        refine kwp_region ?_
        refine kd (v_as) ?_
        refine kops_nil ?_
        refine kn_then ?_
        refine kwp_ret ?_
        refine kr_then ?_
        obtain rfl := e_some h34
        refine r1 [] ?_
        exact ⟨rfl, rfl⟩
      ·
        replace h34 := e_f h34 hc35
        refine kwp_skip ?_
        refine kn_then ?_
        refine kwp_seq ?_
        refine kwp_seq ?_
        obtain ⟨v37, hv36, h34⟩ := e_bind h34
        obtain ⟨v40, hv39, h34⟩ := e_bind h34
        refine kwp_tree (.quiet 0 (.quiet 1 (.one 2 (.one 3 (.quiet 4 .stop))))) [] [⟨.pointer (some p3_2), 2, [[.int .i64 aM0.p, .slice aM01a aM0.aw.length aM01c]]⟩, ⟨.pointer (some p10_18), 2, [[.int .i64 v16.p, .slice q171a v16.aw.length q171c]]⟩] drawMixed (by kernel_rfl) nopan (by (repeat (first | exact Sub.refl _ | exact Sub.nil _ | refine Sub.chunk (by repeat (first | exact Pick.here | apply Pick.there | apply Pick.seg)) (by rfl) ?_ | refine Sub.seg (by repeat (first | exact PickSeg.here | exact PickSeg.all | apply PickSeg.there | apply PickSeg.seg)) ?_ | exact Sub.seg0 (by repeat (first | exact PickSeg.here | exact PickSeg.all | apply PickSeg.there | apply PickSeg.seg)) | apply Sub.assoc))) ?_
        refine kt_d rfl rfl rfl (v_ldB Try.isAgg29 Try.sizeOf29) ?_
        refine kt_d rfl rfl rfl (v_ldB Try.isAgg24 Try.sizeOf24) ?_
        refine kt_one ?_
        refine kl_k rfl rfl (n_call Try.call15 (w_laws_toMine aM01a aM0.aw.length aM01c hv36) ?_)
        rintro _ _ ⟨q381a, q381c, rfl, rfl⟩
        refine ⟨.inl (by (repeat (first | exact Sub.refl _ | exact Sub.nil _ | refine Sub.chunk (by repeat (first | exact Pick.here | apply Pick.there | apply Pick.seg)) (by rfl) ?_ | refine Sub.seg (by repeat (first | exact PickSeg.here | exact PickSeg.all | apply PickSeg.there | apply PickSeg.seg)) ?_ | exact Sub.seg0 (by repeat (first | exact PickSeg.here | exact PickSeg.all | apply PickSeg.there | apply PickSeg.seg)) | apply Sub.assoc))), ?_⟩
        refine kt_one ?_
        refine kl_k rfl rfl (n_call Try.call17 (w_laws_eqMine q171a v16.aw.length q171c q381a v37.aw.length q381c hv39) ?_)
        rintro _ _ ⟨rfl, rfl⟩
        refine ⟨.inl (by (repeat (first | exact Sub.refl _ | exact Sub.nil _ | refine Sub.chunk (by repeat (first | exact Pick.here | apply Pick.there | apply Pick.seg)) (by rfl) ?_ | refine Sub.seg (by repeat (first | exact PickSeg.here | exact PickSeg.all | apply PickSeg.there | apply PickSeg.seg)) ?_ | exact Sub.seg0 (by repeat (first | exact PickSeg.here | exact PickSeg.all | apply PickSeg.there | apply PickSeg.seg)) | apply Sub.assoc))), ?_⟩
        refine kt_d rfl rfl rfl (v_not) ?_
        refine kt_nil ?_
        refine kn_then ?_
        refine kwp_cond rfl (fun hc42 => ?_) (fun hc42 => ?_)
        ·
          replace h34 := e_t h34 hc42
          refine kwp_seq ?_
          refine kwp_region ?_
          refine kd (v_as) ?_
          refine kops_nil ?_
          refine kn_then ?_
          refine kwp_ret ?_
          refine kr_then ?_
          obtain rfl := e_some h34
          refine r1 [] ?_
          exact ⟨rfl, rfl⟩
        ·
          replace h34 := e_f h34 hc42
          refine kwp_skip ?_
          refine kn_then ?_
          refine kwp_seq ?_
          refine kwp_region ?_
          refine kd (v_as) ?_
          refine kops_nil ?_
          refine kn_then ?_
          refine kwp_seq ?_
          refine kwp_region ?_
          refine kd (v_ldB Try.isAgg29 Try.sizeOf29) ?_
          refine kd (v_mv) ?_
          obtain ⟨⟨v44, v45⟩, hv43, h34⟩ := e_bind h34
          refine kk (n_call Try.call35 (w_laws_markMine q171a v16.aw.length q171c hv43) ?_)
          rintro _ _ ⟨rfl, rfl⟩
          refine kd (v_as) ?_
          refine kops_nil ?_
          refine kn_then ?_
          refine kwp_seq ?_
          refine kwp_seq ?_
          refine kwp_cutE (inv := [(1, .int .i64 aIn0), (2, .int .i64 aOut0), (3, .pointer (some p3_2)), (8, .slice q13a v11.length q13c), (9, .bool v12), (11, .slice q22a v20.length q22c)]) (fun (z : Bool) (y : Unit) => [(69, .bool z)]) (fun (z : Bool) (y : Unit) => [⟨.pointer (some p3_2), 2, [[.int .i64 aM0.p, .slice aM01a aM0.aw.length aM01c]]⟩, ⟨.slice q13a v11.length q13c, 1, v11.map encI⟩, ⟨.slice q22a v20.length q22c, 1, v20.map encI⟩]) (fun _ _ => True) h34 ?_ ?_
          · intro t50 h48
            refine kwp_region ?_
            refine kd (v_mv) ?_
            refine kd (v_cmp) ?_
            refine kd (v_mv) ?_
            refine kops_split 59 rfl (fun hb51 => ?_) (fun hb51 => ?_)
            ·
              replace h48 := e_t h48 hb51
              refine kskip hb51 ?_
              refine kskip hb51 ?_
              refine kskip hb51 ?_
              refine kskip hb51 ?_
              refine kd (v_pt hb51) ?_
              refine kd (v_mv) ?_
              refine kskip rfl ?_
              refine kskip rfl ?_
              refine kskip rfl ?_
              refine kd (v_pt rfl) ?_
              refine kops_nil ?_
              refine kn_then ?_
              obtain rfl := e_some h48
              exact ⟨(), hd_mk trivial⟩
            ·
              replace h48 := e_f h48 hb51
              refine kgd hb51 (v_mv) ?_
              refine kgd hb51 (v_mv) ?_
              obtain ⟨v53, hv52, h48⟩ := e_bind h48
              refine kgk hb51 (n_call Try.call34 (w_laws_eqIntS q22a v20.length q22c q13a v11.length q13c hv52) ?_)
              rintro _ _ ⟨rfl, rfl⟩
              refine kgd hb51 (v_not) ?_
              refine kd (v_pf hb51) ?_
              refine kd (v_mv) ?_
              refine kops_split 65 rfl (fun hb55 => ?_) (fun hb55 => ?_)
              ·
                replace h48 := e_t h48 hb55
                refine kskip hb55 ?_
                refine kskip hb55 ?_
                refine kskip hb55 ?_
                refine kd (v_pt hb55) ?_
                refine kops_nil ?_
                refine kn_then ?_
                obtain rfl := e_some h48
                exact ⟨(), hd_mk trivial⟩
              ·
                replace h48 := e_f h48 hb55
                refine kgd hb55 (v_mv) ?_
                refine kgd hb55 (v_mv) ?_
                refine kgd hb55 (v_neb Try.underlying4) ?_
                refine kd (v_pf hb55) ?_
                refine kops_nil ?_
                refine kn_then ?_
                obtain rfl := e_some h48
                exact ⟨(), hd_mk trivial⟩
          · intro x47 y57 _ h58
            refine kn_then ?_
            refine kwp_cond rfl (fun hc59 => ?_) (fun hc59 => ?_)
            ·
              replace h58 := e_t h58 hc59
              refine kwp_seq ?_
              refine kwp_region ?_
              refine kd (v_as) ?_
              refine kops_nil ?_
              refine kn_then ?_
              refine kwp_ret ?_
              refine kr_then ?_
              obtain rfl := e_some h58
              refine r1 [] ?_
              exact ⟨rfl, rfl⟩
            ·
              replace h58 := e_f h58 hc59
              refine kwp_skip ?_
              refine kn_then ?_
              refine kwp_seq ?_
              refine kwp_region ?_
              refine kd (v_as) ?_
              refine kops_nil ?_
              refine kn_then ?_
              refine kwp_seq ?_
              refine kwp_region ?_
              refine kd (v_mv) ?_
              refine kd (v_mv) ?_
              obtain ⟨⟨v61, v62⟩, hv60, h58⟩ := e_bind h58
              refine kk (n_call Try.call36 (w_laws_markIntS q22a v20.length q22c hv60) ?_)
              rintro _ _ ⟨rfl, rfl⟩
              refine kd (v_as) ?_
              refine kops_nil ?_
              refine kn_then ?_
              refine kwp_seq ?_
              refine kwp_region ?_
              refine kd (v_as) ?_
              refine kops_nil ?_
              refine kn_then ?_
              refine kwp_seq ?_
              refine kwp_region ?_
              refine kd (v_mv) ?_
              refine kd (v_mv) ?_
              obtain ⟨v65, hv64, h58⟩ := e_bind h58
              refine kk (n_call Try.call37 (w_laws_heldIntS q22a v20.length q22c hv64) ?_)
              rintro _ _ ⟨rfl, rfl⟩
              refine kd (v_as) ?_
              refine kops_nil ?_
              refine kn_then ?_
              refine kwp_seq ?_
              refine kwp_seq ?_
              refine kwp_region ?_
              refine kd (v_mv) ?_
              refine kd (v_cmp) ?_
              refine kops_nil ?_
              refine kn_then ?_
              refine kwp_cond rfl (fun hc67 => ?_) (fun hc67 => ?_)
              ·
                replace h58 := e_t h58 hc67
                refine kwp_seq ?_
                refine kwp_region ?_
                refine kd (v_as) ?_
                refine kops_nil ?_
                refine kn_then ?_
                refine kwp_ret ?_
                refine kr_then ?_
                obtain rfl := e_some h58
                refine r1 [] ?_
                exact ⟨rfl, rfl⟩
              ·
                replace h58 := e_f h58 hc67
                refine kwp_skip ?_
                refine kn_then ?_
                refine kwp_seq ?_
                refine kwp_seq ?_
                refine kwp_region ?_
                refine kd (v_mv) ?_
                refine kd (v_mv) ?_
                refine kd (v_cmp) ?_
                refine kops_nil ?_
                refine kn_then ?_
                refine kwp_cond rfl (fun hc68 => ?_) (fun hc68 => ?_)
                ·
                  replace h58 := e_t h58 hc68
                  refine kwp_seq ?_
                  refine kwp_region ?_
                  refine kd (v_as) ?_
                  refine kops_nil ?_
                  refine kn_then ?_
                  refine kwp_ret ?_
                  refine kr_then ?_
                  obtain rfl := e_some h58
                  refine r1 [] ?_
                  exact ⟨rfl, rfl⟩
                ·
                  replace h58 := e_f h58 hc68
                  refine kwp_skip ?_
                  refine kn_then ?_
                  refine kwp_seq ?_
                  refine kwp_region ?_
                  refine kd (v_ldB Try.isAgg24 Try.sizeOf24) ?_
                  obtain ⟨v70, hv69, h58⟩ := e_bind h58
                  refine kk (n_call Try.call15 (w_laws_toMine aM01a aM0.aw.length aM01c hv69) ?_)
                  rintro _ _ ⟨q711a, q711c, rfl, rfl⟩
                  refine kd (v_mv) ?_
                  refine kd (v_mv) ?_
                  obtain ⟨⟨v73, v74⟩, hv72, h58⟩ := e_bind h58
                  refine kk (n_call Try.call33 (w_impl_Pressures q711a v70.aw.length q711c hv72) ?_)
                  rintro _ _ ⟨q75a, q75c, rfl, rfl⟩
                  refine kd (v_mv) ?_
                  refine kd (v_ex) ?_
                  refine kd (v_ex) ?_
                  refine kd (v_as) ?_
                  refine kd (v_as) ?_
                  refine kops_nil ?_
                  refine kn_then ?_
                  refine kwp_seq ?_
                  refine kwp_seq ?_
                  refine kwp_cutE (inv := [(11, .slice q22a v20.length q22c), (14, .int .i64 v61)]) (fun (z : Bool) (y : Unit) => [(97, .bool z)]) (fun (z : Bool) (y : Unit) => [⟨.slice q22a v20.length q22c, 1, v62.map encI⟩]) (fun _ _ => True) h58 ?_ ?_
                  · intro t80 h78
                    refine kwp_region ?_
                    refine kd (v_mv) ?_
                    refine kd (v_mv) ?_
                    obtain ⟨v82, hv81, h78⟩ := e_bind h78
                    refine kk (n_call Try.call34 (w_laws_eqIntS q75a v73.length q75c q13a v11.length q13c hv81) ?_)
                    rintro _ _ ⟨rfl, rfl⟩
                    refine kd (v_not) ?_
                    refine kd (v_mv) ?_
                    refine kops_split 93 rfl (fun hb84 => ?_) (fun hb84 => ?_)
                    ·
                      replace h78 := e_t h78 hb84
                      refine kskip hb84 ?_
                      refine kskip hb84 ?_
                      refine kskip hb84 ?_
                      refine kd (v_pt hb84) ?_
                      refine kops_nil ?_
                      refine kn_then ?_
                      obtain rfl := e_some h78
                      exact ⟨(), hd_mk trivial⟩
                    ·
                      replace h78 := e_f h78 hb84
                      refine kgd hb84 (v_mv) ?_
                      refine kgd hb84 (v_mv) ?_
                      refine kgd hb84 (v_neb Try.underlying4) ?_
                      refine kd (v_pf hb84) ?_
                      refine kops_nil ?_
                      refine kn_then ?_
                      obtain rfl := e_some h78
                      exact ⟨(), hd_mk trivial⟩
                  · intro x77 y86 _ h87
                    refine kn_then ?_
                    refine kwp_cond rfl (fun hc88 => ?_) (fun hc88 => ?_)
                    ·
                      replace h87 := e_t h87 hc88
                      refine kwp_seq ?_
                      refine kwp_region ?_
                      refine kd (v_as) ?_
                      refine kops_nil ?_
                      refine kn_then ?_
                      refine kwp_ret ?_
                      refine kr_then ?_
                      obtain rfl := e_some h87
                      refine r1 [] ?_
                      exact ⟨rfl, rfl⟩
                    ·
                      replace h87 := e_f h87 hc88
                      refine kwp_skip ?_
                      refine kn_then ?_
                      refine kwp_seq ?_
                      refine kwp_region ?_
                      refine kd (v_as) ?_
                      refine kops_nil ?_
                      refine kn_then ?_
                      refine kwp_seq ?_
                      refine kwp_region ?_
                      refine kd (v_mv) ?_
                      refine kd (v_mv) ?_
                      obtain ⟨v90, hv89, h87⟩ := e_bind h87
                      refine kk (n_call Try.call37 (w_laws_heldIntS q22a v20.length q22c hv89) ?_)
                      rintro _ _ ⟨rfl, rfl⟩
                      refine kd (v_as) ?_
                      refine kops_nil ?_
                      refine kn_then ?_
                      refine kwp_seq ?_
                      refine kwp_seq ?_
                      refine kwp_region ?_
                      refine kd (v_mv) ?_
                      refine kd (v_cmp) ?_
                      refine kops_nil ?_
                      refine kn_then ?_
                      refine kwp_cond rfl (fun hc92 => ?_) (fun hc92 => ?_)
                      ·
                        replace h87 := e_t h87 hc92
                        refine kwp_seq ?_
                        refine kwp_region ?_
                        refine kd (v_as) ?_
                        refine kops_nil ?_
                        refine kn_then ?_
                        refine kwp_ret ?_
                        refine kr_then ?_
                        obtain rfl := e_some h87
                        refine r1 [] ?_
                        exact ⟨rfl, rfl⟩
                      ·
                        replace h87 := e_f h87 hc92
                        refine kwp_skip ?_
                        refine kn_then ?_
                        refine kwp_seq ?_
                        refine kwp_seq ?_
                        refine kwp_region ?_
                        refine kd (v_mv) ?_
                        refine kd (v_mv) ?_
                        refine kd (v_cmp) ?_
                        refine kops_nil ?_
                        refine kn_then ?_
                        refine kwp_cond rfl (fun hc93 => ?_) (fun hc93 => ?_)
                        ·
                          replace h87 := e_t h87 hc93
                          refine kwp_seq ?_
                          refine kwp_region ?_
                          refine kd (v_as) ?_
                          refine kops_nil ?_
                          refine kn_then ?_
                          refine kwp_ret ?_
                          refine kr_then ?_
                          obtain rfl := e_some h87
                          refine r1 [] ?_
                          exact ⟨rfl, rfl⟩
                        ·
                          replace h87 := e_f h87 hc93
                          refine kwp_skip ?_
                          refine kn_then ?_
                          refine kwp_seq ?_
                          refine kwp_region ?_
                          refine kd (v_as) ?_
                          refine kops_nil ?_
                          refine kn_then ?_
                          refine kwp_ret ?_
                          obtain rfl := e_some h87
                          refine r1 [] ?_
                          exact ⟨rfl, rfl⟩

end Go.Proofs.Ytkedammjdldloaa
