/- What the plain programs return, the functions of the program return; no condition. -/
import Derived.Test.YtkedammjdldloaaQ2TreesAll
import Derived.Test.YtkedammjdldloaaFa
import Derived.Test.YtkedammjdldloaaVel
import Derived.Test.YtkedammjdldloaaVen
import Derived.Test.YtkedammjdldloaaVba
namespace Go.Proofs.Ytkedammjdldloaa
open Go
set_option linter.unusedVariables false
set_option linter.unusedSimpArgs false

set_option maxRecDepth 20000 in
set_option maxHeartbeats 2000000 in
theorem w_laws_FnExactTreesAll (aS01a : Option Addr) (aS01n : Nat) (aS01c : Nat) {aS0 : Survey} {r : Bool} (h : p_laws_FnExactTreesAll aS0 = some r) :
    Triple Try.prog 5 [.agg #[.int .i64 aS0.st, .slice aS01a aS01n aS01c]] [⟨.slice aS01a aS01n aS01c, 5, aS0.legs.map encLeg⟩] [] (fun v ch => v = .bool r ∧ ch = []) := by
  refine triple_start 69 Try.func5 Try.ntmps5 rfl rfl (fun w0 => ?_)
  refine k_len (c := aS01c) (fun hl1 => ?_)
  subst hl1
  unfold p_laws_FnExactTreesAll at h
  refine kwp_seq ?_
  refine kwp_region ?_
  refine kk (n_box (e := [.int .i64 aS0.st, .slice aS01a aS0.legs.length aS01c]) 2 (fun p1_2 => ?_))
  refine kd (v_as) ?_
  refine kops_nil ?_
  refine kn_then ?_
  refine kwp_seq ?_
  refine kwp_region ?_
  refine kd (v_as) ?_
  refine kops_nil ?_
  refine kn_then ?_
  refine kwp_seq ?_
  refine kwp_region ?_
  refine kd (v_ldB Try.isAgg37 Try.sizeOf37) ?_
  refine kd (v_mv) ?_
  obtain ⟨v4, hv3, h⟩ := e_bind h
  refine kk (n_call Try.call20 (w_laws_szSurvey aS01a aS0.legs.length aS01c hv3) ?_)
  rintro _ _ ⟨rfl, rfl⟩
  refine kd (v_as) ?_
  refine kops_nil ?_
  refine kn_then ?_
  refine kwp_seq ?_
  refine kwp_seq ?_
  refine kwp_region ?_
  refine kd (v_mv) ?_
  refine kd (v_cmp) ?_
  refine kops_nil ?_
  refine kn_then ?_
  refine kwp_cond rfl (fun hc6 => ?_) (fun hc6 => ?_)
  ·
    replace h := e_t h hc6
    refine kwp_seq ?_
    refine kwp_region ?_
    refine kd (v_as) ?_
    refine kops_nil ?_
    refine kn_then ?_
    refine kwp_ret ?_
    refine kr_then ?_
    obtain rfl := e_some h
    refine r1 [] ?_
    exact ⟨rfl, rfl⟩
  ·
    replace h := e_f h hc6
    refine kwp_skip ?_
    refine kn_then ?_
    refine kwp_seq ?_
    refine kwp_region ?_
    refine kd (v_ldB Try.isAgg37 Try.sizeOf37) ?_
    obtain ⟨v8, hv7, h⟩ := e_bind h
    refine kk (n_call Try.call22 (w_laws_toSurvey aS01a aS0.legs.length aS01c hv7) ?_)
    rintro _ _ ⟨q91a, q91c, rfl, rfl⟩
    obtain ⟨v11, hv10, h⟩ := e_bind h
    refine kk (n_call Try.call21 (w_spec_TreesAll q91a v8.legs.length q91c hv10) ?_)
    rintro _ _ ⟨q12a, q12c, q12R, rfl, hq12R, rfl⟩
    refine kd (v_as) ?_
    refine kops_nil ?_
    refine kn_then ?_
    refine kwp_seq ?_
    refine kwp_region ?_
    refine kd (v_ldB Try.isAgg37 Try.sizeOf37) ?_
    obtain ⟨v14, hv13, h⟩ := e_bind h
    refine kk (n_call Try.call22 (w_laws_toSurvey aS01a aS0.legs.length aS01c hv13) ?_)
    rintro _ _ ⟨q151a, q151c, rfl, rfl⟩
    refine kops_nilchunk 5 (by decide) ?_
    refine kk (n_alloc (e := [.int .i64 0, .slice none 0 0]) 2 Try.zeroValue43 (fun p5_16 => ?_))
    refine kk (s_B (e' := [.int .i64 v14.st, .slice q151a v14.legs.length q151c]) Try.sizeOf43 ?_)
    refine kops_nil ?_
    refine kn_then ?_
    refine kwp_seq ?_
    refine kwp_region ?_
    refine kd (v_ldB Try.isAgg43 Try.sizeOf43) ?_
    obtain ⟨v18, hv17, h⟩ := e_bind h
    refine kk (n_call Try.call23 (w_impl_TreesAll q151a v14.legs.length q151c hv17) ?_)
    rintro _ _ ⟨q19a, q19c, q19R, rfl, hq19R, rfl⟩
    refine kd (v_as) ?_
    refine kops_nil ?_
    refine kn_then ?_
    refine kwp_seq ?_
    refine kwp_seq ?_
    refine kwp_region ?_
    refine kd (v_mv) ?_
    refine kd (v_mv) ?_
    obtain ⟨v21, hv20, h⟩ := e_bind h
    refine kk (n_call Try.call24 (w_laws_eqIntSS q19a v18.length q19c q19R q12a v11.length q12c q12R hq19R hq12R hv20) ?_)
    rintro _ _ ⟨rfl, rfl⟩
    refine kd (v_not) ?_
    refine kops_nil ?_
    refine kn_then ?_
    refine kwp_cond rfl (fun hc23 => ?_) (fun hc23 => ?_)
    ·
      replace h := e_t h hc23
      refine kwp_seq ?_
      refine kwp_region ?_
      refine kd (v_as) ?_
      refine kops_nil ?_
      refine kn_then ?_
      refine kwp_ret ?_
      refine kr_then ?_
      obtain rfl := e_some h
      refine r1 [] ?_
      exact ⟨rfl, rfl⟩
    ·
      replace h := e_f h hc23
      refine kwp_skip ?_
      refine kn_then ?_
      refine kwp_seq ?_
      refine kwp_seq ?_
      obtain ⟨v25, hv24, h⟩ := e_bind h
      obtain ⟨v28, hv27, h⟩ := e_bind h
      refine kwp_tree (.quiet 0 (.quiet 1 (.one 2 (.one 3 (.quiet 4 .stop))))) [] [⟨.pointer (some p1_2), 2, [[.int .i64 aS0.st, .slice aS01a aS0.legs.length aS01c]]⟩, ⟨.pointer (some p5_16), 2, [[.int .i64 v14.st, .slice q151a v14.legs.length q151c]]⟩] drawMixed (by kernel_rfl) nopan (by (repeat (first | exact Sub.refl _ | exact Sub.nil _ | refine Sub.chunk (by repeat (first | exact Pick.here | apply Pick.there | apply Pick.seg)) (by rfl) ?_ | refine Sub.seg (by repeat (first | exact PickSeg.here | exact PickSeg.all | apply PickSeg.there | apply PickSeg.seg)) ?_ | exact Sub.seg0 (by repeat (first | exact PickSeg.here | exact PickSeg.all | apply PickSeg.there | apply PickSeg.seg)) | apply Sub.assoc))) ?_
      refine kt_d rfl rfl rfl (v_ldB Try.isAgg43 Try.sizeOf43) ?_
      refine kt_d rfl rfl rfl (v_ldB Try.isAgg37 Try.sizeOf37) ?_
      refine kt_one ?_
      refine kl_k rfl rfl (n_call Try.call22 (w_laws_toSurvey aS01a aS0.legs.length aS01c hv24) ?_)
      rintro _ _ ⟨q261a, q261c, rfl, rfl⟩
      refine ⟨.inl (by (repeat (first | exact Sub.refl _ | exact Sub.nil _ | refine Sub.chunk (by repeat (first | exact Pick.here | apply Pick.there | apply Pick.seg)) (by rfl) ?_ | refine Sub.seg (by repeat (first | exact PickSeg.here | exact PickSeg.all | apply PickSeg.there | apply PickSeg.seg)) ?_ | exact Sub.seg0 (by repeat (first | exact PickSeg.here | exact PickSeg.all | apply PickSeg.there | apply PickSeg.seg)) | apply Sub.assoc))), ?_⟩
      refine kt_one ?_
      refine kl_k rfl rfl (n_call Try.call25 (w_laws_eqSurvey q151a v14.legs.length q151c q261a v25.legs.length q261c hv27) ?_)
      rintro _ _ ⟨rfl, rfl⟩
      refine ⟨.inl (by (repeat (first | exact Sub.refl _ | exact Sub.nil _ | refine Sub.chunk (by repeat (first | exact Pick.here | apply Pick.there | apply Pick.seg)) (by rfl) ?_ | refine Sub.seg (by repeat (first | exact PickSeg.here | exact PickSeg.all | apply PickSeg.there | apply PickSeg.seg)) ?_ | exact Sub.seg0 (by repeat (first | exact PickSeg.here | exact PickSeg.all | apply PickSeg.there | apply PickSeg.seg)) | apply Sub.assoc))), ?_⟩
      refine kt_d rfl rfl rfl (v_not) ?_
      refine kt_nil ?_
      refine kn_then ?_
      refine kwp_cond rfl (fun hc30 => ?_) (fun hc30 => ?_)
      ·
        replace h := e_t h hc30
        refine kwp_seq ?_
        refine kwp_region ?_
        refine kd (v_as) ?_
        refine kops_nil ?_
        refine kn_then ?_
        refine kwp_ret ?_
        refine kr_then ?_
        obtain rfl := e_some h
        refine r1 [] ?_
        exact ⟨rfl, rfl⟩
      ·
        replace h := e_f h hc30
        refine kwp_skip ?_
        refine kn_then ?_
        refine kwp_seq ?_
        refine kwp_region ?_
        refine kd (v_as) ?_
        refine kops_nil ?_
        refine kn_then ?_
        refine kwp_seq ?_
        refine kwp_region ?_
        refine kd (v_ldB Try.isAgg43 Try.sizeOf43) ?_
        refine kd (v_mv) ?_
        obtain ⟨⟨v32, v33⟩, hv31, h⟩ := e_bind h
        refine kk (n_call Try.call26 (w_laws_markSurvey q151a v14.legs.length q151c hv31) ?_)
        rintro _ _ ⟨rfl, rfl⟩
        refine kd (v_as) ?_
        refine kops_nil ?_
        refine kn_then ?_
        refine kwp_seq ?_
        refine kwp_seq ?_
        refine kwp_cutE (inv := [(1, .pointer (some p1_2)), (4, .slice q12a v11.length q12c), (6, .slice q19a v18.length q19c)]) (fun (z : Bool) (y : Unit) => [(42, .bool z)]) (fun (z : Bool) (y : Unit) => (⟨.pointer (some p1_2), 2, [[.int .i64 aS0.st, .slice aS01a aS0.legs.length aS01c]]⟩ :: ⟨.slice q12a v11.length q12c, 1, q12R.map encRow⟩ :: ⟨.slice q19a v18.length q19c, 1, q19R.map encRow⟩ :: (rowsC q12R ++ rowsC q19R))) (fun _ _ => True) h ?_ ?_
        · intro t38 h36
          refine kwp_region ?_
          refine kd (v_mv) ?_
          refine kd (v_cmp) ?_
          refine kd (v_mv) ?_
          refine kops_split 37 rfl (fun hb39 => ?_) (fun hb39 => ?_)
          ·
            replace h36 := e_t h36 hb39
            refine kskip hb39 ?_
            refine kskip hb39 ?_
            refine kskip hb39 ?_
            refine kskip hb39 ?_
            refine kd (v_pt hb39) ?_
            refine kops_nil ?_
            refine kn_then ?_
            obtain rfl := e_some h36
            exact ⟨(), hd_mk trivial⟩
          ·
            replace h36 := e_f h36 hb39
            refine kgd hb39 (v_mv) ?_
            refine kgd hb39 (v_mv) ?_
            obtain ⟨v41, hv40, h36⟩ := e_bind h36
            refine kgk hb39 (n_call Try.call24 (w_laws_eqIntSS q19a v18.length q19c q19R q12a v11.length q12c q12R hq19R hq12R hv40) ?_)
            rintro _ _ ⟨rfl, rfl⟩
            refine kgd hb39 (v_not) ?_
            refine kd (v_pf hb39) ?_
            refine kops_nil ?_
            refine kn_then ?_
            obtain rfl := e_some h36
            exact ⟨(), hd_mk trivial⟩
        · intro x35 y44 _ h45
          refine kn_then ?_
          refine kwp_cond rfl (fun hc46 => ?_) (fun hc46 => ?_)
          ·
            replace h45 := e_t h45 hc46
            refine kwp_seq ?_
            refine kwp_region ?_
            refine kd (v_as) ?_
            refine kops_nil ?_
            refine kn_then ?_
            refine kwp_ret ?_
            refine kr_then ?_
            obtain rfl := e_some h45
            refine r1 [] ?_
            exact ⟨rfl, rfl⟩
          ·
            replace h45 := e_f h45 hc46
            refine kwp_skip ?_
            refine kn_then ?_
            refine kwp_seq ?_
            refine kwp_region ?_
            refine kd (v_as) ?_
            refine kops_nil ?_
            refine kn_then ?_
            refine kwp_seq ?_
            refine kwp_region ?_
            refine kd (v_mv) ?_
            refine kd (v_mv) ?_
            obtain ⟨⟨v48, v49⟩, hv47, h45⟩ := e_bind h45
            refine kk (n_call Try.call27 (w_laws_markIntSS q19a v18.length q19c q19R hq19R hv47) ?_)
            rintro _ _ ⟨R51, rfl, hR51, rfl⟩
            refine kd (v_as) ?_
            refine kops_nil ?_
            refine kn_then ?_
            refine kwp_seq ?_
            refine kwp_region ?_
            refine kd (v_as) ?_
            refine kops_nil ?_
            refine kn_then ?_
            refine kwp_seq ?_
            refine kwp_region ?_
            refine kd (v_mv) ?_
            refine kd (v_mv) ?_
            obtain ⟨v53, hv52, h45⟩ := e_bind h45
            refine kk (n_call Try.call28 (w_laws_heldIntSS q19a v18.length q19c R51 hR51 hv52) ?_)
            rintro _ _ ⟨rfl, rfl⟩
            refine kd (v_as) ?_
            refine kops_nil ?_
            refine kn_then ?_
            refine kwp_seq ?_
            refine kwp_seq ?_
            refine kwp_region ?_
            refine kd (v_mv) ?_
            refine kd (v_cmp) ?_
            refine kops_nil ?_
            refine kn_then ?_
            refine kwp_cond rfl (fun hc55 => ?_) (fun hc55 => ?_)
            ·
              replace h45 := e_t h45 hc55
              refine kwp_seq ?_
              refine kwp_region ?_
              refine kd (v_as) ?_
              refine kops_nil ?_
              refine kn_then ?_
              refine kwp_ret ?_
              refine kr_then ?_
              obtain rfl := e_some h45
              refine r1 [] ?_
              exact ⟨rfl, rfl⟩
            ·
              replace h45 := e_f h45 hc55
              refine kwp_skip ?_
              refine kn_then ?_
              refine kwp_seq ?_
              refine kwp_seq ?_
              refine kwp_region ?_
              refine kd (v_mv) ?_
              refine kd (v_mv) ?_
              refine kd (v_cmp) ?_
              refine kops_nil ?_
              refine kn_then ?_
              refine kwp_cond rfl (fun hc56 => ?_) (fun hc56 => ?_)
              ·
                replace h45 := e_t h45 hc56
                refine kwp_seq ?_
                refine kwp_region ?_
                refine kd (v_as) ?_
                refine kops_nil ?_
                refine kn_then ?_
                refine kwp_ret ?_
                refine kr_then ?_
                obtain rfl := e_some h45
                refine r1 [] ?_
                exact ⟨rfl, rfl⟩
              ·
                replace h45 := e_f h45 hc56
                refine kwp_skip ?_
                refine kn_then ?_
                refine kwp_seq ?_
                refine kwp_region ?_
                refine kd (v_ldB Try.isAgg37 Try.sizeOf37) ?_
                obtain ⟨v58, hv57, h45⟩ := e_bind h45
                refine kk (n_call Try.call22 (w_laws_toSurvey aS01a aS0.legs.length aS01c hv57) ?_)
                rintro _ _ ⟨q591a, q591c, rfl, rfl⟩
                obtain ⟨v61, hv60, h45⟩ := e_bind h45
                refine kk (n_call Try.call23 (w_impl_TreesAll q591a v58.legs.length q591c hv60) ?_)
                rintro _ _ ⟨q62a, q62c, q62R, rfl, hq62R, rfl⟩
                refine kd (v_as) ?_
                refine kops_nil ?_
                refine kn_then ?_
                refine kwp_seq ?_
                refine kwp_seq ?_
                refine kwp_region ?_
                refine kd (v_mv) ?_
                refine kd (v_mv) ?_
                obtain ⟨v64, hv63, h45⟩ := e_bind h45
                refine kk (n_call Try.call24 (w_laws_eqIntSS q62a v61.length q62c q62R q12a v11.length q12c q12R hq62R hq12R hv63) ?_)
                rintro _ _ ⟨rfl, rfl⟩
                refine kd (v_not) ?_
                refine kops_nil ?_
                refine kn_then ?_
                refine kwp_cond rfl (fun hc66 => ?_) (fun hc66 => ?_)
                ·
                  replace h45 := e_t h45 hc66
                  refine kwp_seq ?_
                  refine kwp_region ?_
                  refine kd (v_as) ?_
                  refine kops_nil ?_
                  refine kn_then ?_
                  refine kwp_ret ?_
                  refine kr_then ?_
                  obtain rfl := e_some h45
                  refine r1 [] ?_
                  exact ⟨rfl, rfl⟩
                ·
                  replace h45 := e_f h45 hc66
                  refine kwp_skip ?_
                  refine kn_then ?_
                  refine kwp_seq ?_
                  refine kwp_region ?_
                  refine kd (v_as) ?_
                  refine kops_nil ?_
                  refine kn_then ?_
                  refine kwp_seq ?_
                  refine kwp_region ?_
                  refine kd (v_mv) ?_
                  refine kd (v_mv) ?_
                  obtain ⟨v68, hv67, h45⟩ := e_bind h45
                  refine kk (n_call Try.call28 (w_laws_heldIntSS q19a v18.length q19c R51 hR51 hv67) ?_)
                  rintro _ _ ⟨rfl, rfl⟩
                  refine kd (v_as) ?_
                  refine kops_nil ?_
                  refine kn_then ?_
                  refine kwp_seq ?_
                  refine kwp_seq ?_
                  refine kwp_region ?_
                  refine kd (v_mv) ?_
                  refine kd (v_cmp) ?_
                  refine kops_nil ?_
                  refine kn_then ?_
                  refine kwp_cond rfl (fun hc70 => ?_) (fun hc70 => ?_)
                  ·
                    replace h45 := e_t h45 hc70
                    refine kwp_seq ?_
                    refine kwp_region ?_
                    refine kd (v_as) ?_
                    refine kops_nil ?_
                    refine kn_then ?_
                    refine kwp_ret ?_
                    refine kr_then ?_
                    obtain rfl := e_some h45
                    refine r1 [] ?_
                    exact ⟨rfl, rfl⟩
                  ·
                    replace h45 := e_f h45 hc70
                    refine kwp_skip ?_
                    refine kn_then ?_
                    refine kwp_seq ?_
                    refine kwp_seq ?_
                    refine kwp_region ?_
                    refine kd (v_mv) ?_
                    refine kd (v_mv) ?_
                    refine kd (v_cmp) ?_
                    refine kops_nil ?_
                    refine kn_then ?_
                    refine kwp_cond rfl (fun hc71 => ?_) (fun hc71 => ?_)
                    ·
                      replace h45 := e_t h45 hc71
                      refine kwp_seq ?_
                      refine kwp_region ?_
                      refine kd (v_as) ?_
                      refine kops_nil ?_
                      refine kn_then ?_
                      refine kwp_ret ?_
                      refine kr_then ?_
                      obtain rfl := e_some h45
                      refine r1 [] ?_
                      exact ⟨rfl, rfl⟩
                    ·
                      replace h45 := e_f h45 hc71
                      refine kwp_skip ?_
                      refine kn_then ?_
                      refine kwp_seq ?_
                      refine kwp_region ?_
                      refine kd (v_as) ?_
                      refine kops_nil ?_
                      refine kn_then ?_
                      refine kwp_ret ?_
                      obtain rfl := e_some h45
                      refine r1 [] ?_
                      exact ⟨rfl, rfl⟩

end Go.Proofs.Ytkedammjdldloaa
