/- What the plain programs return, the functions of the program return; no condition. -/
import Derived.Test.YtkhjbfngafebeaaZQ
import Derived.Test.YtkhjbfngafebeaaZFa
import Derived.Test.YtkhjbfngafebeaaZVel
import Derived.Test.YtkhjbfngafebeaaZVew
import Derived.Test.YtkhjbfngafebeaaZVtf
import Derived.Test.YtkhjbfngafebeaaZVbp
import Derived.Test.YtkhjbfngafebeaaZVbv
import Derived.Test.YtkhjbfngafebeaaZVbq
namespace Go.Proofs.Ytkhjbfngafebeaa
open Go
set_option linter.unusedVariables false
set_option linter.unusedSimpArgs false

set_option maxRecDepth 20000 in
set_option maxHeartbeats 2000000 in
theorem w_laws_FnExactTreesFix (aS01a : Option Addr) (aS01n : Nat) (aS01c : Nat) {aS0 : Survey} {r : Bool} (h : p_laws_FnExactTreesFix aS0 = some r) :
    Triple Try.prog 5 [.agg #[.int .i64 aS0.st, .slice aS01a aS01n aS01c]] [⟨.slice aS01a aS01n aS01c, 5, aS0.legs.map encLeg⟩] [] (fun v ch => v = .bool r ∧ ch = []) := by
  refine triple_start 96 Try.func5 Try.ntmps5 rfl rfl (fun w0 => ?_)
  refine k_len (c := aS01c) (fun hl1 => ?_)
  subst hl1
  unfold p_laws_FnExactTreesFix at h
  refine kwp_seq ?_
  refine kwp_region ?_
  refine kk (n_box (e := [.int .i64 aS0.st, .slice aS01a aS0.legs.length aS01c]) 2 (fun p1_2 => ?_))
  refine kd (v_as) ?_
  refine kops_nil ?_
  refine kn_then ?_
  refine kwp_seq ?_
  refine kwp_region ?_
  refine kd (v_as) ?_
  refine kops_nil ?_
  refine kn_then ?_
  refine kwp_seq ?_
  refine kwp_region ?_
  refine kd (v_ldB Try.isAgg24 Try.sizeOf24) ?_
  refine kd (v_mv) ?_
  obtain ⟨v4, hv3, h⟩ := e_bind h
  refine kk (n_call Try.call6 (w_laws_szSurvey aS01a aS0.legs.length aS01c hv3) ?_)
  rintro _ _ ⟨rfl, rfl⟩
  refine kd (v_as) ?_
  refine kops_nil ?_
  refine kn_then ?_
  refine kwp_seq ?_
  refine kwp_seq ?_
  refine kwp_region ?_
  refine kd (v_mv) ?_
  refine kd (v_cmp) ?_
  refine kops_nil ?_
  refine kn_then ?_
  refine kwp_cond rfl (fun hc6 => ?_) (fun hc6 => ?_)
  ·
    replace h := e_t h hc6
    refine kwp_seq ?_
    refine kwp_region ?_
    refine kd (v_as) ?_
    refine kops_nil ?_
    refine kn_then ?_
    refine kwp_ret ?_
    refine kr_then ?_
    obtain rfl := e_some h
    refine r1 [] ?_
    exact ⟨rfl, rfl⟩
  ·
    replace h := e_f h hc6
    refine kwp_skip ?_
    refine kn_then ?_
    refine kwp_seq ?_
    refine kwp_region ?_
    refine kd (v_ldB Try.isAgg24 Try.sizeOf24) ?_
    obtain ⟨v8, hv7, h⟩ := e_bind h
    refine kk (n_call Try.call8 (w_laws_toSurvey aS01a aS0.legs.length aS01c hv7) ?_)
    rintro _ _ ⟨q91a, q91c, rfl, rfl⟩
    obtain ⟨⟨v11, v12⟩, hv10, h⟩ := e_bind h
    refine kk (n_call Try.call20 (w_spec_TreesFix q91a v8.legs.length q91c hv10) ?_)
    rintro _ _ ⟨q131a, q131c, rfl, rfl⟩
    refine kd (v_mv) ?_
    refine kd (v_ex) ?_
    refine kd (v_ex) ?_
    refine kops_nilchunk 3 (by decide) ?_
    refine kk (n_alloc (e := [.int .i64 0, .slice none 0 0]) 2 Try.zeroValue28 (fun p4_15 => ?_))
    refine kk (s_B (e' := [.int .i64 v11.den, .slice q131a v11.nums.length q131c]) Try.sizeOf28 ?_)
    refine kd (v_as) ?_
    refine kops_nil ?_
    refine kn_then ?_
    refine kwp_seq ?_
    refine kwp_region ?_
    refine kd (v_ldB Try.isAgg24 Try.sizeOf24) ?_
    obtain ⟨v17, hv16, h⟩ := e_bind h
    refine kk (n_call Try.call8 (w_laws_toSurvey aS01a aS0.legs.length aS01c hv16) ?_)
    rintro _ _ ⟨q181a, q181c, rfl, rfl⟩
    refine kops_nilchunk 5 (by decide) ?_
    refine kk (n_alloc (e := [.int .i64 0, .slice none 0 0]) 2 Try.zeroValue33 (fun p6_19 => ?_))
    refine kk (s_B (e' := [.int .i64 v17.st, .slice q181a v17.legs.length q181c]) Try.sizeOf33 ?_)
    refine kops_nil ?_
    refine kn_then ?_
    refine kwp_seq ?_
    refine kwp_region ?_
    refine kd (v_ldB Try.isAgg33 Try.sizeOf33) ?_
    obtain ⟨⟨v21, v22⟩, hv20, h⟩ := e_bind h
    refine kk (n_call Try.call21 (w_impl_TreesFix q181a v17.legs.length q181c hv20) ?_)
    rintro _ _ ⟨q231a, q231c, rfl, rfl⟩
    refine kd (v_mv) ?_
    refine kd (v_ex) ?_
    refine kd (v_ex) ?_
    refine kops_nilchunk 3 (by decide) ?_
    refine kk (n_alloc (e := [.int .i64 0, .slice none 0 0]) 2 Try.zeroValue28 (fun p7_25 => ?_))
    refine kk (s_B (e' := [.int .i64 v21.den, .slice q231a v21.nums.length q231c]) Try.sizeOf28 ?_)
    refine kd (v_as) ?_
    refine kops_nil ?_
    refine kn_then ?_
    refine kwp_seq ?_
    refine kwp_seq ?_
    refine kwp_cutE (inv := [(1, .pointer (some p1_2)), (4, .pointer (some p4_15)), (5, .bool v12), (6, .pointer (some p6_19)), (7, .pointer (some p7_25)), (8, .bool v22)]) (fun (z : Bool) (y : Unit) => [(40, .bool z)]) (fun (z : Bool) (y : Unit) => [⟨.pointer (some p1_2), 2, [[.int .i64 aS0.st, .slice aS01a aS0.legs.length aS01c]]⟩, ⟨.pointer (some p4_15), 2, [[.int .i64 v11.den, .slice q131a v11.nums.length q131c]]⟩, ⟨.slice q131a v11.nums.length q131c, 3, v11.nums.map encWay⟩, ⟨.pointer (some p6_19), 2, [[.int .i64 v17.st, .slice q181a v17.legs.length q181c]]⟩, ⟨.slice q181a v17.legs.length q181c, 5, v17.legs.map encLeg⟩, ⟨.pointer (some p7_25), 2, [[.int .i64 v21.den, .slice q231a v21.nums.length q231c]]⟩, ⟨.slice q231a v21.nums.length q231c, 3, v21.nums.map encWay⟩]) (fun _ _ => True) h ?_ ?_
    · intro t29 h27
      refine kwp_region ?_
      refine kd (v_ldB Try.isAgg28 Try.sizeOf28) ?_
      refine kd (v_ldB Try.isAgg28 Try.sizeOf28) ?_
      obtain ⟨v31, hv30, h27⟩ := e_bind h27
      refine kk (n_call Try.call10 (w_laws_eqFix q231a v21.nums.length q231c q131a v11.nums.length q131c hv30) ?_)
      rintro _ _ ⟨rfl, rfl⟩
      refine kd (v_not) ?_
      refine kd (v_mv) ?_
      refine kops_split 36 rfl (fun hb33 => ?_) (fun hb33 => ?_)
      ·
        replace h27 := e_t h27 hb33
        refine kskip hb33 ?_
        refine kskip hb33 ?_
        refine kskip hb33 ?_
        refine kd (v_pt hb33) ?_
        refine kops_nil ?_
        refine kn_then ?_
        obtain rfl := e_some h27
        exact ⟨(), hd_mk trivial⟩
      ·
        replace h27 := e_f h27 hb33
        refine kgd hb33 (v_mv) ?_
        refine kgd hb33 (v_mv) ?_
        refine kgd hb33 (v_neb Try.underlying4) ?_
        refine kd (v_pf hb33) ?_
        refine kops_nil ?_
        refine kn_then ?_
        obtain rfl := e_some h27
        exact ⟨(), hd_mk trivial⟩
    · intro x26 y35 _ h36
      refine kn_then ?_
      refine kwp_cond rfl (fun hc37 => ?_) (fun hc37 => ?_)
      ·
        replace h36 := e_t h36 hc37
        refine kwp_seq ?_
        refine kwp_region ?_
        refine kd (v_as) ?_
        refine kops_nil ?_
        refine kn_then ?_
        refine kwp_ret ?_
        refine kr_then ?_
        obtain rfl := e_some h36
        refine r1 [] ?_
        exact ⟨rfl, rfl⟩
      ·
        replace h36 := e_f h36 hc37
        refine kwp_skip ?_
        refine kn_then ?_
        refine kwp_seq ?_
        refine kwp_seq ?_
        obtain ⟨v39, hv38, h36⟩ := e_bind h36
        obtain ⟨v42, hv41, h36⟩ := e_bind h36
        refine kwp_tree (.quiet 0 (.quiet 1 (.one 2 (.one 3 (.quiet 4 .stop))))) [] [⟨.pointer (some p1_2), 2, [[.int .i64 aS0.st, .slice aS01a aS0.legs.length aS01c]]⟩, ⟨.pointer (some p6_19), 2, [[.int .i64 v17.st, .slice q181a v17.legs.length q181c]]⟩] drawMixed (by kernel_rfl) nopan (by (repeat (first | exact Sub.refl _ | exact Sub.nil _ | refine Sub.chunk (by repeat (first | exact Pick.here | apply Pick.there | apply Pick.seg)) (by rfl) ?_ | refine Sub.seg (by repeat (first | exact PickSeg.here | exact PickSeg.all | apply PickSeg.there | apply PickSeg.seg)) ?_ | exact Sub.seg0 (by repeat (first | exact PickSeg.here | exact PickSeg.all | apply PickSeg.there | apply PickSeg.seg)) | apply Sub.assoc))) ?_
        refine kt_d rfl rfl rfl (v_ldB Try.isAgg33 Try.sizeOf33) ?_
        refine kt_d rfl rfl rfl (v_ldB Try.isAgg24 Try.sizeOf24) ?_
        refine kt_one ?_
        refine kl_k rfl rfl (n_call Try.call8 (w_laws_toSurvey aS01a aS0.legs.length aS01c hv38) ?_)
        rintro _ _ ⟨q401a, q401c, rfl, rfl⟩
        refine ⟨.inl (by (repeat (first | exact Sub.refl _ | exact Sub.nil _ | refine Sub.chunk (by repeat (first | exact Pick.here | apply Pick.there | apply Pick.seg)) (by rfl) ?_ | refine Sub.seg (by repeat (first | exact PickSeg.here | exact PickSeg.all | apply PickSeg.there | apply PickSeg.seg)) ?_ | exact Sub.seg0 (by repeat (first | exact PickSeg.here | exact PickSeg.all | apply PickSeg.there | apply PickSeg.seg)) | apply Sub.assoc))), ?_⟩
        refine kt_one ?_
        refine kl_k rfl rfl (n_call Try.call11 (w_laws_eqSurvey q181a v17.legs.length q181c q401a v39.legs.length q401c hv41) ?_)
        rintro _ _ ⟨rfl, rfl⟩
        refine ⟨.inl (by (repeat (first | exact Sub.refl _ | exact Sub.nil _ | refine Sub.chunk (by repeat (first | exact Pick.here | apply Pick.there | apply Pick.seg)) (by rfl) ?_ | refine Sub.seg (by repeat (first | exact PickSeg.here | exact PickSeg.all | apply PickSeg.there | apply PickSeg.seg)) ?_ | exact Sub.seg0 (by repeat (first | exact PickSeg.here | exact PickSeg.all | apply PickSeg.there | apply PickSeg.seg)) | apply Sub.assoc))), ?_⟩
        refine kt_d rfl rfl rfl (v_not) ?_
        refine kt_nil ?_
        refine kn_then ?_
        refine kwp_cond rfl (fun hc44 => ?_) (fun hc44 => ?_)
        ·
          replace h36 := e_t h36 hc44
          refine kwp_seq ?_
          refine kwp_region ?_
          refine kd (v_as) ?_
          refine kops_nil ?_
          refine kn_then ?_
          refine kwp_ret ?_
          refine kr_then ?_
          obtain rfl := e_some h36
          refine r1 [] ?_
          exact ⟨rfl, rfl⟩
        ·
          replace h36 := e_f h36 hc44
          refine kwp_skip ?_
          refine kn_then ?_
          refine kwp_seq ?_
          refine kwp_region ?_
          refine kd (v_as) ?_
          refine kops_nil ?_
          refine kn_then ?_
          refine kwp_seq ?_
          refine kwp_region ?_
          refine kd (v_ldB Try.isAgg33 Try.sizeOf33) ?_
          refine kd (v_mv) ?_
          obtain ⟨⟨v46, v47⟩, hv45, h36⟩ := e_bind h36
          refine kk (n_call Try.call12 (w_laws_markSurvey q181a v17.legs.length q181c hv45) ?_)
          rintro _ _ ⟨rfl, rfl⟩
          refine kd (v_as) ?_
          refine kops_nil ?_
          refine kn_then ?_
          refine kwp_seq ?_
          refine kwp_seq ?_
          refine kwp_cutE (inv := [(1, .pointer (some p1_2)), (4, .pointer (some p4_15)), (5, .bool v12), (7, .pointer (some p7_25))]) (fun (z : Bool) (y : Unit) => [(61, .bool z)]) (fun (z : Bool) (y : Unit) => [⟨.pointer (some p1_2), 2, [[.int .i64 aS0.st, .slice aS01a aS0.legs.length aS01c]]⟩, ⟨.pointer (some p4_15), 2, [[.int .i64 v11.den, .slice q131a v11.nums.length q131c]]⟩, ⟨.slice q131a v11.nums.length q131c, 3, v11.nums.map encWay⟩, ⟨.pointer (some p7_25), 2, [[.int .i64 v21.den, .slice q231a v21.nums.length q231c]]⟩, ⟨.slice q231a v21.nums.length q231c, 3, v21.nums.map encWay⟩]) (fun _ _ => True) h36 ?_ ?_
          · intro t52 h50
            refine kwp_region ?_
            refine kd (v_mv) ?_
            refine kd (v_cmp) ?_
            refine kd (v_mv) ?_
            refine kops_split 51 rfl (fun hb53 => ?_) (fun hb53 => ?_)
            ·
              replace h50 := e_t h50 hb53
              refine kskip hb53 ?_
              refine kskip hb53 ?_
              refine kskip hb53 ?_
              refine kskip hb53 ?_
              refine kd (v_pt hb53) ?_
              refine kd (v_mv) ?_
              refine kskip rfl ?_
              refine kskip rfl ?_
              refine kskip rfl ?_
              refine kd (v_pt rfl) ?_
              refine kops_nil ?_
              refine kn_then ?_
              obtain rfl := e_some h50
              exact ⟨(), hd_mk trivial⟩
            ·
              replace h50 := e_f h50 hb53
              refine kgd hb53 (v_ldB Try.isAgg28 Try.sizeOf28) ?_
              refine kgd hb53 (v_ldB Try.isAgg28 Try.sizeOf28) ?_
              obtain ⟨v55, hv54, h50⟩ := e_bind h50
              refine kgk hb53 (n_call Try.call10 (w_laws_eqFix q231a v21.nums.length q231c q131a v11.nums.length q131c hv54) ?_)
              rintro _ _ ⟨rfl, rfl⟩
              refine kgd hb53 (v_not) ?_
              refine kd (v_pf hb53) ?_
              refine kd (v_mv) ?_
              refine kops_split 57 rfl (fun hb57 => ?_) (fun hb57 => ?_)
              ·
                replace h50 := e_t h50 hb57
                refine kskip hb57 ?_
                refine kskip hb57 ?_
                refine kskip hb57 ?_
                refine kd (v_pt hb57) ?_
                refine kops_nil ?_
                refine kn_then ?_
                obtain rfl := e_some h50
                exact ⟨(), hd_mk trivial⟩
              ·
                replace h50 := e_f h50 hb57
                refine kgd hb57 (v_mv) ?_
                refine kgd hb57 (v_mv) ?_
                refine kgd hb57 (v_neb Try.underlying4) ?_
                refine kd (v_pf hb57) ?_
                refine kops_nil ?_
                refine kn_then ?_
                obtain rfl := e_some h50
                exact ⟨(), hd_mk trivial⟩
          · intro x49 y59 _ h60
            refine kn_then ?_
            refine kwp_cond rfl (fun hc61 => ?_) (fun hc61 => ?_)
            ·
              replace h60 := e_t h60 hc61
              refine kwp_seq ?_
              refine kwp_region ?_
              refine kd (v_as) ?_
              refine kops_nil ?_
              refine kn_then ?_
              refine kwp_ret ?_
              refine kr_then ?_
              obtain rfl := e_some h60
              refine r1 [] ?_
              exact ⟨rfl, rfl⟩
            ·
              replace h60 := e_f h60 hc61
              refine kwp_skip ?_
              refine kn_then ?_
              refine kwp_seq ?_
              refine kwp_region ?_
              refine kd (v_as) ?_
              refine kops_nil ?_
              refine kn_then ?_
              refine kwp_seq ?_
              refine kwp_region ?_
              refine kd (v_ldB Try.isAgg28 Try.sizeOf28) ?_
              refine kd (v_mv) ?_
              obtain ⟨⟨v63, v64⟩, hv62, h60⟩ := e_bind h60
              refine kk (n_call Try.call13 (w_laws_markFix q231a v21.nums.length q231c hv62) ?_)
              rintro _ _ ⟨rfl, rfl⟩
              refine kd (v_as) ?_
              refine kops_nil ?_
              refine kn_then ?_
              refine kwp_seq ?_
              refine kwp_region ?_
              refine kd (v_as) ?_
              refine kops_nil ?_
              refine kn_then ?_
              refine kwp_seq ?_
              refine kwp_region ?_
              refine kd (v_ldB Try.isAgg28 Try.sizeOf28) ?_
              refine kd (v_mv) ?_
              obtain ⟨v67, hv66, h60⟩ := e_bind h60
              refine kk (n_call Try.call14 (w_laws_heldFix q231a v21.nums.length q231c hv66) ?_)
              rintro _ _ ⟨rfl, rfl⟩
              refine kd (v_as) ?_
              refine kops_nil ?_
              refine kn_then ?_
              refine kwp_seq ?_
              refine kwp_seq ?_
              refine kwp_region ?_
              refine kd (v_mv) ?_
              refine kd (v_cmp) ?_
              refine kops_nil ?_
              refine kn_then ?_
              refine kwp_cond rfl (fun hc69 => ?_) (fun hc69 => ?_)
              ·
                replace h60 := e_t h60 hc69
                refine kwp_seq ?_
                refine kwp_region ?_
                refine kd (v_as) ?_
                refine kops_nil ?_
                refine kn_then ?_
                refine kwp_ret ?_
                refine kr_then ?_
                obtain rfl := e_some h60
                refine r1 [] ?_
                exact ⟨rfl, rfl⟩
              ·
                replace h60 := e_f h60 hc69
                refine kwp_skip ?_
                refine kn_then ?_
                refine kwp_seq ?_
                refine kwp_seq ?_
                refine kwp_region ?_
                refine kd (v_mv) ?_
                refine kd (v_mv) ?_
                refine kd (v_cmp) ?_
                refine kops_nil ?_
                refine kn_then ?_
                refine kwp_cond rfl (fun hc70 => ?_) (fun hc70 => ?_)
                ·
                  replace h60 := e_t h60 hc70
                  refine kwp_seq ?_
                  refine kwp_region ?_
                  refine kd (v_as) ?_
                  refine kops_nil ?_
                  refine kn_then ?_
                  refine kwp_ret ?_
                  refine kr_then ?_
                  obtain rfl := e_some h60
                  refine r1 [] ?_
                  exact ⟨rfl, rfl⟩
                ·
                  replace h60 := e_f h60 hc70
                  refine kwp_skip ?_
                  refine kn_then ?_
                  refine kwp_seq ?_
                  refine kwp_region ?_
                  refine kd (v_ldB Try.isAgg24 Try.sizeOf24) ?_
                  obtain ⟨v72, hv71, h60⟩ := e_bind h60
                  refine kk (n_call Try.call8 (w_laws_toSurvey aS01a aS0.legs.length aS01c hv71) ?_)
                  rintro _ _ ⟨q731a, q731c, rfl, rfl⟩
                  obtain ⟨⟨v75, v76⟩, hv74, h60⟩ := e_bind h60
                  refine kk (n_call Try.call21 (w_impl_TreesFix q731a v72.legs.length q731c hv74) ?_)
                  rintro _ _ ⟨q771a, q771c, rfl, rfl⟩
                  refine kd (v_mv) ?_
                  refine kd (v_ex) ?_
                  refine kd (v_ex) ?_
                  refine kops_nilchunk 3 (by decide) ?_
                  refine kk (n_alloc (e := [.int .i64 0, .slice none 0 0]) 2 Try.zeroValue28 (fun p12_79 => ?_))
                  refine kk (s_B (e' := [.int .i64 v75.den, .slice q771a v75.nums.length q771c]) Try.sizeOf28 ?_)
                  refine kd (v_as) ?_
                  refine kops_nil ?_
                  refine kn_then ?_
                  refine kwp_seq ?_
                  refine kwp_seq ?_
                  refine kwp_cutE (inv := [(7, .pointer (some p7_25)), (10, .int .i64 v63)]) (fun (z : Bool) (y : Unit) => [(87, .bool z)]) (fun (z : Bool) (y : Unit) => [⟨.pointer (some p7_25), 2, [[.int .i64 v21.den, .slice q231a v21.nums.length q231c]]⟩, ⟨.slice q231a v21.nums.length q231c, 3, v64.map encWay⟩]) (fun _ _ => True) h60 ?_ ?_
                  · intro t83 h81
                    refine kwp_region ?_
                    refine kd (v_ldB Try.isAgg28 Try.sizeOf28) ?_
                    refine kd (v_ldB Try.isAgg28 Try.sizeOf28) ?_
                    obtain ⟨v85, hv84, h81⟩ := e_bind h81
                    refine kk (n_call Try.call10 (w_laws_eqFix q771a v75.nums.length q771c q131a v11.nums.length q131c hv84) ?_)
                    rintro _ _ ⟨rfl, rfl⟩
                    refine kd (v_not) ?_
                    refine kd (v_mv) ?_
                    refine kops_split 83 rfl (fun hb87 => ?_) (fun hb87 => ?_)
                    ·
                      replace h81 := e_t h81 hb87
                      refine kskip hb87 ?_
                      refine kskip hb87 ?_
                      refine kskip hb87 ?_
                      refine kd (v_pt hb87) ?_
                      refine kops_nil ?_
                      refine kn_then ?_
                      obtain rfl := e_some h81
                      exact ⟨(), hd_mk trivial⟩
                    ·
                      replace h81 := e_f h81 hb87
                      refine kgd hb87 (v_mv) ?_
                      refine kgd hb87 (v_mv) ?_
                      refine kgd hb87 (v_neb Try.underlying4) ?_
                      refine kd (v_pf hb87) ?_
                      refine kops_nil ?_
                      refine kn_then ?_
                      obtain rfl := e_some h81
                      exact ⟨(), hd_mk trivial⟩
                  · intro x80 y89 _ h90
                    refine kn_then ?_
                    refine kwp_cond rfl (fun hc91 => ?_) (fun hc91 => ?_)
                    ·
                      replace h90 := e_t h90 hc91
                      refine kwp_seq ?_
                      refine kwp_region ?_
                      refine kd (v_as) ?_
                      refine kops_nil ?_
                      refine kn_then ?_
                      refine kwp_ret ?_
                      refine kr_then ?_
                      obtain rfl := e_some h90
                      refine r1 [] ?_
                      exact ⟨rfl, rfl⟩
                    ·
                      replace h90 := e_f h90 hc91
                      refine kwp_skip ?_
                      refine kn_then ?_
                      refine kwp_seq ?_
                      refine kwp_region ?_
                      refine kd (v_as) ?_
                      refine kops_nil ?_
                      refine kn_then ?_
                      refine kwp_seq ?_
                      refine kwp_region ?_
                      refine kd (v_ldB Try.isAgg28 Try.sizeOf28) ?_
                      refine kd (v_mv) ?_
                      obtain ⟨v93, hv92, h90⟩ := e_bind h90
                      refine kk (n_call Try.call14 (w_laws_heldFix q231a v21.nums.length q231c hv92) ?_)
                      rintro _ _ ⟨rfl, rfl⟩
                      refine kd (v_as) ?_
                      refine kops_nil ?_
                      refine kn_then ?_
                      refine kwp_seq ?_
                      refine kwp_seq ?_
                      refine kwp_region ?_
                      refine kd (v_mv) ?_
                      refine kd (v_cmp) ?_
                      refine kops_nil ?_
                      refine kn_then ?_
                      refine kwp_cond rfl (fun hc95 => ?_) (fun hc95 => ?_)
                      ·
                        replace h90 := e_t h90 hc95
                        refine kwp_seq ?_
                        refine kwp_region ?_
                        refine kd (v_as) ?_
                        refine kops_nil ?_
                        refine kn_then ?_
                        refine kwp_ret ?_
                        refine kr_then ?_
                        obtain rfl := e_some h90
                        refine r1 [] ?_
                        exact ⟨rfl, rfl⟩
                      ·
                        replace h90 := e_f h90 hc95
                        refine kwp_skip ?_
                        refine kn_then ?_
                        refine kwp_seq ?_
                        refine kwp_seq ?_
                        refine kwp_region ?_
                        refine kd (v_mv) ?_
                        refine kd (v_mv) ?_
                        refine kd (v_cmp) ?_
                        refine kops_nil ?_
                        refine kn_then ?_
                        refine kwp_cond rfl (fun hc96 => ?_) (fun hc96 => ?_)
                        ·
                          replace h90 := e_t h90 hc96
                          refine kwp_seq ?_
                          refine kwp_region ?_
                          refine kd (v_as) ?_
                          refine kops_nil ?_
                          refine kn_then ?_
                          refine kwp_ret ?_
                          refine kr_then ?_
                          obtain rfl := e_some h90
                          refine r1 [] ?_
                          exact ⟨rfl, rfl⟩
                        ·
                          replace h90 := e_f h90 hc96
                          refine kwp_skip ?_
                          refine kn_then ?_
                          refine kwp_seq ?_
                          refine kwp_region ?_
                          refine kd (v_as) ?_
                          refine kops_nil ?_
                          refine kn_then ?_
                          refine kwp_ret ?_
                          obtain rfl := e_some h90
                          refine r1 [] ?_
                          exact ⟨rfl, rfl⟩

end Go.Proofs.Ytkhjbfngafebeaa
