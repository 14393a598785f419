/- What the plain programs return, the functions of the program return; no condition. -/
import Derived.Test.YtkhjbfngafebeaaZQ
import Derived.Test.YtkhjbfngafebeaaZFa
import Derived.Test.YtkhjbfngafebeaaZVel
import Derived.Test.YtkhjbfngafebeaaZVei
import Derived.Test.YtkhjbfngafebeaaZVew
import Derived.Test.YtkhjbfngafebeaaZVtf
namespace Go.Proofs.Ytkhjbfngafebeaa
open Go
set_option linter.unusedVariables false
set_option linter.unusedSimpArgs false

set_option maxRecDepth 20000 in
set_option maxHeartbeats 2000000 in
theorem w_laws_FnExactTreeFix (aS01a : Option Addr) (aS01n : Nat) (aS01c : Nat) (aTree0a : Option Addr) (aTree0n : Nat) (aTree0c : Nat) {aS0 : Survey} {aTree0 : List Int} {r : Bool} (h : p_laws_FnExactTreeFix aS0 aTree0 = some r) :
    Triple Try.prog 4 [.agg #[.int .i64 aS0.st, .slice aS01a aS01n aS01c], .slice aTree0a aTree0n aTree0c] [⟨.slice aS01a aS01n aS01c, 5, aS0.legs.map encLeg⟩, ⟨.slice aTree0a aTree0n aTree0c, 1, aTree0.map encI⟩] [] (fun v ch => v = .bool r ∧ ch = []) := by
  refine triple_start 117 Try.func4 Try.ntmps4 rfl rfl (fun w0 => ?_)
  refine k_len (c := aS01c) (fun hl1 => ?_)
  subst hl1
  refine k_len (c := aTree0c) (fun hl2 => ?_)
  subst hl2
  unfold p_laws_FnExactTreeFix at h
  refine kwp_seq ?_
  refine kwp_region ?_
  refine kk (n_box (e := [.int .i64 aS0.st, .slice aS01a aS0.legs.length aS01c]) 2 (fun p2_3 => ?_))
  refine kd (v_as) ?_
  refine kops_nil ?_
  refine kn_then ?_
  refine kwp_seq ?_
  refine kwp_seq ?_
  refine kwp_region ?_
  refine kd (v_mv) ?_
  refine kd (v_len Try.runUnderlying40) ?_
  refine kd (v_cmp) ?_
  refine kops_nil ?_
  refine kn_then ?_
  refine kwp_cond rfl (fun hc4 => ?_) (fun hc4 => ?_)
  ·
    replace h := e_t h hc4
    refine kwp_seq ?_
    refine kwp_region ?_
    refine kd (v_as) ?_
    refine kops_nil ?_
    refine kn_then ?_
    refine kwp_ret ?_
    refine kr_then ?_
    obtain rfl := e_some h
    refine r1 [] ?_
    exact ⟨rfl, rfl⟩
  ·
    replace h := e_f h hc4
    refine kwp_skip ?_
    refine kn_then ?_
    refine kwp_seq ?_
    refine kwp_region ?_
    refine kd (v_as) ?_
    refine kops_nil ?_
    refine kn_then ?_
    refine kwp_seq ?_
    refine kwp_region ?_
    refine kd (v_ldB Try.isAgg24 Try.sizeOf24) ?_
    refine kd (v_mv) ?_
    obtain ⟨v6, hv5, h⟩ := e_bind h
    refine kk (n_call Try.call6 (w_laws_szSurvey aS01a aS0.legs.length aS01c hv5) ?_)
    rintro _ _ ⟨rfl, rfl⟩
    refine kd (v_as) ?_
    refine kops_nil ?_
    refine kn_then ?_
    refine kwp_seq ?_
    refine kwp_seq ?_
    refine kwp_region ?_
    refine kd (v_mv) ?_
    refine kd (v_cmp) ?_
    refine kops_nil ?_
    refine kn_then ?_
    refine kwp_cond rfl (fun hc8 => ?_) (fun hc8 => ?_)
    ·
      replace h := e_t h hc8
      refine kwp_seq ?_
      refine kwp_region ?_
      refine kd (v_as) ?_
      refine kops_nil ?_
      refine kn_then ?_
      refine kwp_ret ?_
      refine kr_then ?_
      obtain rfl := e_some h
      refine r1 [] ?_
      exact ⟨rfl, rfl⟩
    ·
      replace h := e_f h hc8
      refine kwp_skip ?_
      refine kn_then ?_
      refine kwp_seq ?_
      refine kwp_region ?_
      refine kd (v_ldB Try.isAgg24 Try.sizeOf24) ?_
      obtain ⟨v10, hv9, h⟩ := e_bind h
      refine kk (n_call Try.call8 (w_laws_toSurvey aS01a aS0.legs.length aS01c hv9) ?_)
      rintro _ _ ⟨q111a, q111c, rfl, rfl⟩
      refine kd (v_mv) ?_
      obtain ⟨v13, hv12, h⟩ := e_bind h
      refine kk (n_call Try.call16 (w_laws_toIntS aTree0a aTree0.length aTree0c hv12) ?_)
      rintro _ _ ⟨q14a, q14c, rfl, rfl⟩
      obtain ⟨⟨v16, v17⟩, hv15, h⟩ := e_bind h
      refine kk (n_call Try.call15 (w_spec_TreeFix q111a v10.legs.length q111c q14a v13.length q14c hv15) ?_)
      rintro _ _ ⟨q181a, q181c, rfl, rfl⟩
      refine kd (v_mv) ?_
      refine kd (v_ex) ?_
      refine kd (v_ex) ?_
      refine kops_nilchunk 3 (by decide) ?_
      refine kk (n_alloc (e := [.int .i64 0, .slice none 0 0]) 2 Try.zeroValue28 (fun p6_20 => ?_))
      refine kk (s_B (e' := [.int .i64 v16.den, .slice q181a v16.nums.length q181c]) Try.sizeOf28 ?_)
      refine kd (v_as) ?_
      refine kops_nil ?_
      refine kn_then ?_
      refine kwp_seq ?_
      refine kwp_region ?_
      refine kd (v_ldB Try.isAgg24 Try.sizeOf24) ?_
      obtain ⟨v22, hv21, h⟩ := e_bind h
      refine kk (n_call Try.call8 (w_laws_toSurvey aS01a aS0.legs.length aS01c hv21) ?_)
      rintro _ _ ⟨q231a, q231c, rfl, rfl⟩
      refine kops_nilchunk 5 (by decide) ?_
      refine kk (n_alloc (e := [.int .i64 0, .slice none 0 0]) 2 Try.zeroValue33 (fun p8_24 => ?_))
      refine kk (s_B (e' := [.int .i64 v22.st, .slice q231a v22.legs.length q231c]) Try.sizeOf33 ?_)
      refine kops_nil ?_
      refine kn_then ?_
      refine kwp_seq ?_
      refine kwp_region ?_
      refine kd (v_mv) ?_
      obtain ⟨v26, hv25, h⟩ := e_bind h
      refine kk (n_call Try.call16 (w_laws_toIntS aTree0a aTree0.length aTree0c hv25) ?_)
      rintro _ _ ⟨q27a, q27c, rfl, rfl⟩
      refine kd (v_as) ?_
      refine kops_nil ?_
      refine kn_then ?_
      refine kwp_seq ?_
      refine kwp_region ?_
      refine kd (v_ldB Try.isAgg33 Try.sizeOf33) ?_
      refine kd (v_mv) ?_
      obtain ⟨⟨v29, v30⟩, hv28, h⟩ := e_bind h
      refine kk (n_call Try.call17 (w_impl_TreeFix q231a v22.legs.length q231c q27a v26.length q27c hv28) ?_)
      rintro _ _ ⟨q311a, q311c, rfl, rfl⟩
      refine kd (v_mv) ?_
      refine kd (v_ex) ?_
      refine kd (v_ex) ?_
      refine kops_nilchunk 3 (by decide) ?_
      refine kk (n_alloc (e := [.int .i64 0, .slice none 0 0]) 2 Try.zeroValue28 (fun p10_33 => ?_))
      refine kk (s_B (e' := [.int .i64 v29.den, .slice q311a v29.nums.length q311c]) Try.sizeOf28 ?_)
      refine kd (v_as) ?_
      refine kops_nil ?_
      refine kn_then ?_
      refine kwp_seq ?_
      refine kwp_seq ?_
      refine kwp_cutE (inv := [(1, .slice aTree0a aTree0.length aTree0c), (2, .pointer (some p2_3)), (6, .pointer (some p6_20)), (7, .bool v17), (8, .pointer (some p8_24)), (9, .slice q27a v26.length q27c), (10, .pointer (some p10_33)), (11, .bool v30)]) (fun (z : Bool) (y : Unit) => [(51, .bool z)]) (fun (z : Bool) (y : Unit) => [⟨.pointer (some p2_3), 2, [[.int .i64 aS0.st, .slice aS01a aS0.legs.length aS01c]]⟩, ⟨.pointer (some p6_20), 2, [[.int .i64 v16.den, .slice q181a v16.nums.length q181c]]⟩, ⟨.slice q181a v16.nums.length q181c, 3, v16.nums.map encWay⟩, ⟨.pointer (some p8_24), 2, [[.int .i64 v22.st, .slice q231a v22.legs.length q231c]]⟩, ⟨.slice q231a v22.legs.length q231c, 5, v22.legs.map encLeg⟩, ⟨.slice q27a v26.length q27c, 1, v26.map encI⟩, ⟨.pointer (some p10_33), 2, [[.int .i64 v29.den, .slice q311a v29.nums.length q311c]]⟩, ⟨.slice q311a v29.nums.length q311c, 3, v29.nums.map encWay⟩]) (fun _ _ => True) h ?_ ?_
      · intro t37 h35
        refine kwp_region ?_
        refine kd (v_ldB Try.isAgg28 Try.sizeOf28) ?_
        refine kd (v_ldB Try.isAgg28 Try.sizeOf28) ?_
        obtain ⟨v39, hv38, h35⟩ := e_bind h35
        refine kk (n_call Try.call10 (w_laws_eqFix q311a v29.nums.length q311c q181a v16.nums.length q181c hv38) ?_)
        rintro _ _ ⟨rfl, rfl⟩
        refine kd (v_not) ?_
        refine kd (v_mv) ?_
        refine kops_split 47 rfl (fun hb41 => ?_) (fun hb41 => ?_)
        ·
          replace h35 := e_t h35 hb41
          refine kskip hb41 ?_
          refine kskip hb41 ?_
          refine kskip hb41 ?_
          refine kd (v_pt hb41) ?_
          refine kops_nil ?_
          refine kn_then ?_
          obtain rfl := e_some h35
          exact ⟨(), hd_mk trivial⟩
        ·
          replace h35 := e_f h35 hb41
          refine kgd hb41 (v_mv) ?_
          refine kgd hb41 (v_mv) ?_
          refine kgd hb41 (v_neb Try.underlying4) ?_
          refine kd (v_pf hb41) ?_
          refine kops_nil ?_
          refine kn_then ?_
          obtain rfl := e_some h35
          exact ⟨(), hd_mk trivial⟩
      · intro x34 y43 _ h44
        refine kn_then ?_
        refine kwp_cond rfl (fun hc45 => ?_) (fun hc45 => ?_)
        ·
          replace h44 := e_t h44 hc45
          refine kwp_seq ?_
          refine kwp_region ?_
          refine kd (v_as) ?_
          refine kops_nil ?_
          refine kn_then ?_
          refine kwp_ret ?_
          refine kr_then ?_
          obtain rfl := e_some h44
          refine r1 [] ?_
          exact ⟨rfl, rfl⟩
        ·
          replace h44 := e_f h44 hc45
          refine kwp_skip ?_
          refine kn_then ?_
          refine kwp_seq ?_
          refine kwp_seq ?_
          obtain ⟨v47, hv46, h44⟩ := e_bind h44
          obtain ⟨v50, hv49, h44⟩ := e_bind h44
          refine kwp_tree (.quiet 0 (.quiet 1 (.one 2 (.one 3 (.quiet 4 .stop))))) [] [⟨.pointer (some p2_3), 2, [[.int .i64 aS0.st, .slice aS01a aS0.legs.length aS01c]]⟩, ⟨.pointer (some p8_24), 2, [[.int .i64 v22.st, .slice q231a v22.legs.length q231c]]⟩] drawMixed (by kernel_rfl) nopan (by (repeat (first | exact Sub.refl _ | exact Sub.nil _ | refine Sub.chunk (by repeat (first | exact Pick.here | apply Pick.there | apply Pick.seg)) (by rfl) ?_ | refine Sub.seg (by repeat (first | exact PickSeg.here | exact PickSeg.all | apply PickSeg.there | apply PickSeg.seg)) ?_ | exact Sub.seg0 (by repeat (first | exact PickSeg.here | exact PickSeg.all | apply PickSeg.there | apply PickSeg.seg)) | apply Sub.assoc))) ?_
          refine kt_d rfl rfl rfl (v_ldB Try.isAgg33 Try.sizeOf33) ?_
          refine kt_d rfl rfl rfl (v_ldB Try.isAgg24 Try.sizeOf24) ?_
          refine kt_one ?_
          refine kl_k rfl rfl (n_call Try.call8 (w_laws_toSurvey aS01a aS0.legs.length aS01c hv46) ?_)
          rintro _ _ ⟨q481a, q481c, rfl, rfl⟩
          refine ⟨.inl (by (repeat (first | exact Sub.refl _ | exact Sub.nil _ | refine Sub.chunk (by repeat (first | exact Pick.here | apply Pick.there | apply Pick.seg)) (by rfl) ?_ | refine Sub.seg (by repeat (first | exact PickSeg.here | exact PickSeg.all | apply PickSeg.there | apply PickSeg.seg)) ?_ | exact Sub.seg0 (by repeat (first | exact PickSeg.here | exact PickSeg.all | apply PickSeg.there | apply PickSeg.seg)) | apply Sub.assoc))), ?_⟩
          refine kt_one ?_
          refine kl_k rfl rfl (n_call Try.call11 (w_laws_eqSurvey q231a v22.legs.length q231c q481a v47.legs.length q481c hv49) ?_)
          rintro _ _ ⟨rfl, rfl⟩
          refine ⟨.inl (by (repeat (first | exact Sub.refl _ | exact Sub.nil _ | refine Sub.chunk (by repeat (first | exact Pick.here | apply Pick.there | apply Pick.seg)) (by rfl) ?_ | refine Sub.seg (by repeat (first | exact PickSeg.here | exact PickSeg.all | apply PickSeg.there | apply PickSeg.seg)) ?_ | exact Sub.seg0 (by repeat (first | exact PickSeg.here | exact PickSeg.all | apply PickSeg.there | apply PickSeg.seg)) | apply Sub.assoc))), ?_⟩
          refine kt_d rfl rfl rfl (v_not) ?_
          refine kt_nil ?_
          refine kn_then ?_
          refine kwp_cond rfl (fun hc52 => ?_) (fun hc52 => ?_)
          ·
            replace h44 := e_t h44 hc52
            refine kwp_seq ?_
            refine kwp_region ?_
            refine kd (v_as) ?_
            refine kops_nil ?_
            refine kn_then ?_
            refine kwp_ret ?_
            refine kr_then ?_
            obtain rfl := e_some h44
            refine r1 [] ?_
            exact ⟨rfl, rfl⟩
          ·
            replace h44 := e_f h44 hc52
            refine kwp_skip ?_
            refine kn_then ?_
            refine kwp_seq ?_
            refine kwp_seq ?_
            refine kwp_region ?_
            refine kd (v_mv) ?_
            refine kd (v_mv) ?_
            obtain ⟨v54, hv53, h44⟩ := e_bind h44
            refine kk (n_call Try.call16 (w_laws_toIntS aTree0a aTree0.length aTree0c hv53) ?_)
            rintro _ _ ⟨q55a, q55c, rfl, rfl⟩
            obtain ⟨v57, hv56, h44⟩ := e_bind h44
            refine kk (n_call Try.call18 (w_laws_eqIntS q27a v26.length q27c q55a v54.length q55c hv56) ?_)
            rintro _ _ ⟨rfl, rfl⟩
            refine kd (v_not) ?_
            refine kops_nil ?_
            refine kn_then ?_
            refine kwp_cond rfl (fun hc59 => ?_) (fun hc59 => ?_)
            ·
              replace h44 := e_t h44 hc59
              refine kwp_seq ?_
              refine kwp_region ?_
              refine kd (v_as) ?_
              refine kops_nil ?_
              refine kn_then ?_
              refine kwp_ret ?_
              refine kr_then ?_
              obtain rfl := e_some h44
              refine r1 [] ?_
              exact ⟨rfl, rfl⟩
            ·
              replace h44 := e_f h44 hc59
              refine kwp_skip ?_
              refine kn_then ?_
              refine kwp_seq ?_
              refine kwp_region ?_
              refine kd (v_as) ?_
              refine kops_nil ?_
              refine kn_then ?_
              refine kwp_seq ?_
              refine kwp_region ?_
              refine kd (v_ldB Try.isAgg33 Try.sizeOf33) ?_
              refine kd (v_mv) ?_
              obtain ⟨⟨v61, v62⟩, hv60, h44⟩ := e_bind h44
              refine kk (n_call Try.call12 (w_laws_markSurvey q231a v22.legs.length q231c hv60) ?_)
              rintro _ _ ⟨rfl, rfl⟩
              refine kd (v_as) ?_
              refine kops_nil ?_
              refine kn_then ?_
              refine kwp_seq ?_
              refine kwp_region ?_
              refine kd (v_mv) ?_
              refine kd (v_mv) ?_
              obtain ⟨⟨v65, v66⟩, hv64, h44⟩ := e_bind h44
              refine kk (n_call Try.call19 (w_laws_markIntS q27a v26.length q27c hv64) ?_)
              rintro _ _ ⟨rfl, rfl⟩
              refine kd (v_as) ?_
              refine kops_nil ?_
              refine kn_then ?_
              refine kwp_seq ?_
              refine kwp_seq ?_
              refine kwp_cutE (inv := [(1, .slice aTree0a aTree0.length aTree0c), (2, .pointer (some p2_3)), (6, .pointer (some p6_20)), (7, .bool v17), (10, .pointer (some p10_33))]) (fun (z : Bool) (y : Unit) => [(80, .bool z)]) (fun (z : Bool) (y : Unit) => [⟨.pointer (some p2_3), 2, [[.int .i64 aS0.st, .slice aS01a aS0.legs.length aS01c]]⟩, ⟨.pointer (some p6_20), 2, [[.int .i64 v16.den, .slice q181a v16.nums.length q181c]]⟩, ⟨.slice q181a v16.nums.length q181c, 3, v16.nums.map encWay⟩, ⟨.pointer (some p10_33), 2, [[.int .i64 v29.den, .slice q311a v29.nums.length q311c]]⟩, ⟨.slice q311a v29.nums.length q311c, 3, v29.nums.map encWay⟩]) (fun _ _ => True) h44 ?_ ?_
              · intro t71 h69
                refine kwp_region ?_
                refine kd (v_mv) ?_
                refine kd (v_cmp) ?_
                refine kd (v_mv) ?_
                refine kops_split 70 rfl (fun hb72 => ?_) (fun hb72 => ?_)
                ·
                  replace h69 := e_t h69 hb72
                  refine kskip hb72 ?_
                  refine kskip hb72 ?_
                  refine kskip hb72 ?_
                  refine kskip hb72 ?_
                  refine kd (v_pt hb72) ?_
                  refine kd (v_mv) ?_
                  refine kskip rfl ?_
                  refine kskip rfl ?_
                  refine kskip rfl ?_
                  refine kd (v_pt rfl) ?_
                  refine kops_nil ?_
                  refine kn_then ?_
                  obtain rfl := e_some h69
                  exact ⟨(), hd_mk trivial⟩
                ·
                  replace h69 := e_f h69 hb72
                  refine kgd hb72 (v_ldB Try.isAgg28 Try.sizeOf28) ?_
                  refine kgd hb72 (v_ldB Try.isAgg28 Try.sizeOf28) ?_
                  obtain ⟨v74, hv73, h69⟩ := e_bind h69
                  refine kgk hb72 (n_call Try.call10 (w_laws_eqFix q311a v29.nums.length q311c q181a v16.nums.length q181c hv73) ?_)
                  rintro _ _ ⟨rfl, rfl⟩
                  refine kgd hb72 (v_not) ?_
                  refine kd (v_pf hb72) ?_
                  refine kd (v_mv) ?_
                  refine kops_split 76 rfl (fun hb76 => ?_) (fun hb76 => ?_)
                  ·
                    replace h69 := e_t h69 hb76
                    refine kskip hb76 ?_
                    refine kskip hb76 ?_
                    refine kskip hb76 ?_
                    refine kd (v_pt hb76) ?_
                    refine kops_nil ?_
                    refine kn_then ?_
                    obtain rfl := e_some h69
                    exact ⟨(), hd_mk trivial⟩
                  ·
                    replace h69 := e_f h69 hb76
                    refine kgd hb76 (v_mv) ?_
                    refine kgd hb76 (v_mv) ?_
                    refine kgd hb76 (v_neb Try.underlying4) ?_
                    refine kd (v_pf hb76) ?_
                    refine kops_nil ?_
                    refine kn_then ?_
                    obtain rfl := e_some h69
                    exact ⟨(), hd_mk trivial⟩
              · intro x68 y78 _ h79
                refine kn_then ?_
                refine kwp_cond rfl (fun hc80 => ?_) (fun hc80 => ?_)
                ·
                  replace h79 := e_t h79 hc80
                  refine kwp_seq ?_
                  refine kwp_region ?_
                  refine kd (v_as) ?_
                  refine kops_nil ?_
                  refine kn_then ?_
                  refine kwp_ret ?_
                  refine kr_then ?_
                  obtain rfl := e_some h79
                  refine r1 [] ?_
                  exact ⟨rfl, rfl⟩
                ·
                  replace h79 := e_f h79 hc80
                  refine kwp_skip ?_
                  refine kn_then ?_
                  refine kwp_seq ?_
                  refine kwp_region ?_
                  refine kd (v_as) ?_
                  refine kops_nil ?_
                  refine kn_then ?_
                  refine kwp_seq ?_
                  refine kwp_region ?_
                  refine kd (v_ldB Try.isAgg28 Try.sizeOf28) ?_
                  refine kd (v_mv) ?_
                  obtain ⟨⟨v82, v83⟩, hv81, h79⟩ := e_bind h79
                  refine kk (n_call Try.call13 (w_laws_markFix q311a v29.nums.length q311c hv81) ?_)
                  rintro _ _ ⟨rfl, rfl⟩
                  refine kd (v_as) ?_
                  refine kops_nil ?_
                  refine kn_then ?_
                  refine kwp_seq ?_
                  refine kwp_region ?_
                  refine kd (v_as) ?_
                  refine kops_nil ?_
                  refine kn_then ?_
                  refine kwp_seq ?_
                  refine kwp_region ?_
                  refine kd (v_ldB Try.isAgg28 Try.sizeOf28) ?_
                  refine kd (v_mv) ?_
                  obtain ⟨v86, hv85, h79⟩ := e_bind h79
                  refine kk (n_call Try.call14 (w_laws_heldFix q311a v29.nums.length q311c hv85) ?_)
                  rintro _ _ ⟨rfl, rfl⟩
                  refine kd (v_as) ?_
                  refine kops_nil ?_
                  refine kn_then ?_
                  refine kwp_seq ?_
                  refine kwp_seq ?_
                  refine kwp_region ?_
                  refine kd (v_mv) ?_
                  refine kd (v_cmp) ?_
                  refine kops_nil ?_
                  refine kn_then ?_
                  refine kwp_cond rfl (fun hc88 => ?_) (fun hc88 => ?_)
                  ·
                    replace h79 := e_t h79 hc88
                    refine kwp_seq ?_
                    refine kwp_region ?_
                    refine kd (v_as) ?_
                    refine kops_nil ?_
                    refine kn_then ?_
                    refine kwp_ret ?_
                    refine kr_then ?_
                    obtain rfl := e_some h79
                    refine r1 [] ?_
                    exact ⟨rfl, rfl⟩
                  ·
                    replace h79 := e_f h79 hc88
                    refine kwp_skip ?_
                    refine kn_then ?_
                    refine kwp_seq ?_
                    refine kwp_seq ?_
                    refine kwp_region ?_
                    refine kd (v_mv) ?_
                    refine kd (v_mv) ?_
                    refine kd (v_cmp) ?_
                    refine kops_nil ?_
                    refine kn_then ?_
                    refine kwp_cond rfl (fun hc89 => ?_) (fun hc89 => ?_)
                    ·
                      replace h79 := e_t h79 hc89
                      refine kwp_seq ?_
                      refine kwp_region ?_
                      refine kd (v_as) ?_
                      refine kops_nil ?_
                      refine kn_then ?_
                      refine kwp_ret ?_
                      refine kr_then ?_
                      obtain rfl := e_some h79
                      refine r1 [] ?_
                      exact ⟨rfl, rfl⟩
                    ·
                      replace h79 := e_f h79 hc89
                      refine kwp_skip ?_
                      refine kn_then ?_
                      refine kwp_seq ?_
                      refine kwp_region ?_
                      refine kd (v_ldB Try.isAgg24 Try.sizeOf24) ?_
                      obtain ⟨v91, hv90, h79⟩ := e_bind h79
                      refine kk (n_call Try.call8 (w_laws_toSurvey aS01a aS0.legs.length aS01c hv90) ?_)
                      rintro _ _ ⟨q921a, q921c, rfl, rfl⟩
                      refine kd (v_mv) ?_
                      obtain ⟨v94, hv93, h79⟩ := e_bind h79
                      refine kk (n_call Try.call16 (w_laws_toIntS aTree0a aTree0.length aTree0c hv93) ?_)
                      rintro _ _ ⟨q95a, q95c, rfl, rfl⟩
                      obtain ⟨⟨v97, v98⟩, hv96, h79⟩ := e_bind h79
                      refine kk (n_call Try.call17 (w_impl_TreeFix q921a v91.legs.length q921c q95a v94.length q95c hv96) ?_)
                      rintro _ _ ⟨q991a, q991c, rfl, rfl⟩
                      refine kd (v_mv) ?_
                      refine kd (v_ex) ?_
                      refine kd (v_ex) ?_
                      refine kops_nilchunk 3 (by decide) ?_
                      refine kk (n_alloc (e := [.int .i64 0, .slice none 0 0]) 2 Try.zeroValue28 (fun p15_101 => ?_))
                      refine kk (s_B (e' := [.int .i64 v97.den, .slice q991a v97.nums.length q991c]) Try.sizeOf28 ?_)
                      refine kd (v_as) ?_
                      refine kops_nil ?_
                      refine kn_then ?_
                      refine kwp_seq ?_
                      refine kwp_seq ?_
                      refine kwp_cutE (inv := [(10, .pointer (some p10_33)), (13, .int .i64 v82)]) (fun (z : Bool) (y : Unit) => [(108, .bool z)]) (fun (z : Bool) (y : Unit) => [⟨.pointer (some p10_33), 2, [[.int .i64 v29.den, .slice q311a v29.nums.length q311c]]⟩, ⟨.slice q311a v29.nums.length q311c, 3, v83.map encWay⟩]) (fun _ _ => True) h79 ?_ ?_
                      · intro t105 h103
                        refine kwp_region ?_
                        refine kd (v_ldB Try.isAgg28 Try.sizeOf28) ?_
                        refine kd (v_ldB Try.isAgg28 Try.sizeOf28) ?_
                        obtain ⟨v107, hv106, h103⟩ := e_bind h103
                        refine kk (n_call Try.call10 (w_laws_eqFix q991a v97.nums.length q991c q181a v16.nums.length q181c hv106) ?_)
                        rintro _ _ ⟨rfl, rfl⟩
                        refine kd (v_not) ?_
                        refine kd (v_mv) ?_
                        refine kops_split 104 rfl (fun hb109 => ?_) (fun hb109 => ?_)
                        ·
                          replace h103 := e_t h103 hb109
                          refine kskip hb109 ?_
                          refine kskip hb109 ?_
                          refine kskip hb109 ?_
                          refine kd (v_pt hb109) ?_
                          refine kops_nil ?_
                          refine kn_then ?_
                          obtain rfl := e_some h103
                          exact ⟨(), hd_mk trivial⟩
                        ·
                          replace h103 := e_f h103 hb109
                          refine kgd hb109 (v_mv) ?_
                          refine kgd hb109 (v_mv) ?_
                          refine kgd hb109 (v_neb Try.underlying4) ?_
                          refine kd (v_pf hb109) ?_
                          refine kops_nil ?_
                          refine kn_then ?_
                          obtain rfl := e_some h103
                          exact ⟨(), hd_mk trivial⟩
                      · intro x102 y111 _ h112
                        refine kn_then ?_
                        refine kwp_cond rfl (fun hc113 => ?_) (fun hc113 => ?_)
                        ·
                          replace h112 := e_t h112 hc113
                          refine kwp_seq ?_
                          refine kwp_region ?_
                          refine kd (v_as) ?_
                          refine kops_nil ?_
                          refine kn_then ?_
                          refine kwp_ret ?_
                          refine kr_then ?_
                          obtain rfl := e_some h112
                          refine r1 [] ?_
                          exact ⟨rfl, rfl⟩
                        ·
                          replace h112 := e_f h112 hc113
                          refine kwp_skip ?_
                          refine kn_then ?_
                          refine kwp_seq ?_
                          refine kwp_region ?_
                          refine kd (v_as) ?_
                          refine kops_nil ?_
                          refine kn_then ?_
                          refine kwp_seq ?_
                          refine kwp_region ?_
                          refine kd (v_ldB Try.isAgg28 Try.sizeOf28) ?_
                          refine kd (v_mv) ?_
                          obtain ⟨v115, hv114, h112⟩ := e_bind h112
                          refine kk (n_call Try.call14 (w_laws_heldFix q311a v29.nums.length q311c hv114) ?_)
                          rintro _ _ ⟨rfl, rfl⟩
                          refine kd (v_as) ?_
                          refine kops_nil ?_
                          refine kn_then ?_
                          refine kwp_seq ?_
                          refine kwp_seq ?_
                          refine kwp_region ?_
                          refine kd (v_mv) ?_
                          refine kd (v_cmp) ?_
                          refine kops_nil ?_
                          refine kn_then ?_
                          refine kwp_cond rfl (fun hc117 => ?_) (fun hc117 => ?_)
                          ·
                            replace h112 := e_t h112 hc117
                            refine kwp_seq ?_
                            refine kwp_region ?_
                            refine kd (v_as) ?_
                            refine kops_nil ?_
                            refine kn_then ?_
                            refine kwp_ret ?_
                            refine kr_then ?_
                            obtain rfl := e_some h112
                            refine r1 [] ?_
                            exact ⟨rfl, rfl⟩
                          ·
                            replace h112 := e_f h112 hc117
                            refine kwp_skip ?_
                            refine kn_then ?_
                            refine kwp_seq ?_
                            refine kwp_seq ?_
                            refine kwp_region ?_
                            refine kd (v_mv) ?_
                            refine kd (v_mv) ?_
                            refine kd (v_cmp) ?_
                            refine kops_nil ?_
                            refine kn_then ?_
                            refine kwp_cond rfl (fun hc118 => ?_) (fun hc118 => ?_)
                            ·
                              replace h112 := e_t h112 hc118
                              refine kwp_seq ?_
                              refine kwp_region ?_
                              refine kd (v_as) ?_
                              refine kops_nil ?_
                              refine kn_then ?_
                              refine kwp_ret ?_
                              refine kr_then ?_
                              obtain rfl := e_some h112
                              refine r1 [] ?_
                              exact ⟨rfl, rfl⟩
                            ·
                              replace h112 := e_f h112 hc118
                              refine kwp_skip ?_
                              refine kn_then ?_
                              refine kwp_seq ?_
                              refine kwp_region ?_
                              refine kd (v_as) ?_
                              refine kops_nil ?_
                              refine kn_then ?_
                              refine kwp_ret ?_
                              obtain rfl := e_some h112
                              refine r1 [] ?_
                              exact ⟨rfl, rfl⟩

end Go.Proofs.Ytkhjbfngafebeaa
