/- What the plain programs return, the functions of the program return; no condition. -/
import Derived.Test.YtkedammjdldloaaQ2WidenBest
import Derived.Test.YtkedammjdldloaaFa
import Derived.Test.YtkedammjdldloaaVea
import Derived.Test.YtkedammjdldloaaVbb
namespace Go.Proofs.Ytkedammjdldloaa
open Go
set_option linter.unusedVariables false
set_option linter.unusedSimpArgs false

set_option maxRecDepth 20000 in
theorem w_laws_FnExactWidenBest (aM01a : Option Addr) (aM01n : Nat) (aM01c : Nat) {aM0 : Mine} {aA0 : Int} {aB0 : Int} {r : Bool} (h : p_laws_FnExactWidenBest aM0 aA0 aB0 = some r) :
    Triple Try.prog 9 [.agg #[.int .i64 aM0.p, .slice aM01a aM01n aM01c], .int .i64 aA0, .int .i64 aB0] [⟨.slice aM01a aM01n aM01c, 3, aM0.aw.map encAirway⟩] [] (fun v ch => v = .bool r ∧ ch = []) := by
  refine triple_start 35 Try.func9 Try.ntmps9 rfl rfl (fun w0 => ?_)
  refine k_len (c := aM01c) (fun hl1 => ?_)
  subst hl1
  unfold p_laws_FnExactWidenBest at h
  refine kwp_seq ?_
  refine kwp_region ?_
  refine kk (n_box (e := [.int .i64 aM0.p, .slice aM01a aM0.aw.length aM01c]) 2 (fun p3_2 => ?_))
  refine kd (v_as) ?_
  refine kops_nil ?_
  refine kn_then ?_
  refine kwp_seq ?_
  refine kwp_region ?_
  refine kd (v_as) ?_
  refine kops_nil ?_
  refine kn_then ?_
  refine kwp_seq ?_
  refine kwp_region ?_
  refine kd (v_ldB Try.isAgg24 Try.sizeOf24) ?_
  refine kd (v_mv) ?_
  obtain ⟨v4, hv3, h⟩ := e_bind h
  refine kk (n_call Try.call13 (w_laws_szMine aM01a aM0.aw.length aM01c hv3) ?_)
  rintro _ _ ⟨rfl, rfl⟩
  refine kd (v_as) ?_
  refine kops_nil ?_
  refine kn_then ?_
  refine kwp_seq ?_
  refine kwp_seq ?_
  refine kwp_region ?_
  refine kd (v_mv) ?_
  refine kd (v_cmp) ?_
  refine kops_nil ?_
  refine kn_then ?_
  refine kwp_cond rfl (fun hc6 => ?_) (fun hc6 => ?_)
  ·
    replace h := e_t h hc6
    refine kwp_seq ?_
    refine kwp_region ?_
    refine kd (v_as) ?_
    refine kops_nil ?_
    refine kn_then ?_
    refine kwp_ret ?_
    refine kr_then ?_
    obtain rfl := e_some h
    refine r1 [] ?_
    exact ⟨rfl, rfl⟩
  ·
    replace h := e_f h hc6
    refine kwp_skip ?_
    refine kn_then ?_
    refine kwp_seq ?_
    refine kwp_region ?_
    refine kd (v_ldB Try.isAgg24 Try.sizeOf24) ?_
    obtain ⟨v8, hv7, h⟩ := e_bind h
    refine kk (n_call Try.call15 (w_laws_toMine aM01a aM0.aw.length aM01c hv7) ?_)
    rintro _ _ ⟨q91a, q91c, rfl, rfl⟩
    refine kd (v_mv) ?_
    refine kd (v_mv) ?_
    obtain ⟨v11, hv10, h⟩ := e_bind h
    refine kk (n_call Try.call40 (w_spec_WidenBest q91a v8.aw.length q91c hv10) ?_)
    rintro _ _ ⟨rfl, rfl⟩
    refine kd (v_as) ?_
    refine kops_nil ?_
    refine kn_then ?_
    refine kwp_seq ?_
    refine kwp_region ?_
    refine kd (v_ldB Try.isAgg24 Try.sizeOf24) ?_
    obtain ⟨v14, hv13, h⟩ := e_bind h
    refine kk (n_call Try.call15 (w_laws_toMine aM01a aM0.aw.length aM01c hv13) ?_)
    rintro _ _ ⟨q151a, q151c, rfl, rfl⟩
    refine kops_nilchunk 3 (by decide) ?_
    refine kk (n_alloc (e := [.int .i64 0, .slice none 0 0]) 2 Try.zeroValue29 (fun p9_16 => ?_))
    refine kk (s_B (e' := [.int .i64 v14.p, .slice q151a v14.aw.length q151c]) Try.sizeOf29 ?_)
    refine kops_nil ?_
    refine kn_then ?_
    refine kwp_seq ?_
    refine kwp_region ?_
    refine kd (v_ldB Try.isAgg29 Try.sizeOf29) ?_
    refine kd (v_mv) ?_
    refine kd (v_mv) ?_
    obtain ⟨v18, hv17, h⟩ := e_bind h
    refine kk (n_call Try.call41 (w_impl_WidenBest q151a v14.aw.length q151c hv17) ?_)
    rintro _ _ ⟨rfl, rfl⟩
    refine kd (v_as) ?_
    refine kops_nil ?_
    refine kn_then ?_
    refine kwp_seq ?_
    refine kwp_seq ?_
    refine kwp_region ?_
    refine kd (v_mv) ?_
    refine kd (v_mv) ?_
    refine kd (v_cmp) ?_
    refine kops_nil ?_
    refine kn_then ?_
    refine kwp_cond rfl (fun hc20 => ?_) (fun hc20 => ?_)
    ·
      replace h := e_t h hc20
      refine kwp_seq ?_
      refine kwp_region ?_
      refine kd (v_as) ?_
      refine kops_nil ?_
      refine kn_then ?_
      refine kwp_ret ?_
      refine kr_then ?_
      obtain rfl := e_some h
      refine r1 [] ?_
      exact ⟨rfl, rfl⟩
    ·
      replace h := e_f h hc20
      refine kwp_skip ?_
      refine kn_then ?_
      refine kwp_seq ?_
      refine kwp_seq ?_
      obtain ⟨v22, hv21, h⟩ := e_bind h
      obtain ⟨v25, hv24, h⟩ := e_bind h
      refine kwp_tree (.quiet 0 (.quiet 1 (.one 2 (.one 3 (.quiet 4 .stop))))) [] [⟨.pointer (some p3_2), 2, [[.int .i64 aM0.p, .slice aM01a aM0.aw.length aM01c]]⟩, ⟨.pointer (some p9_16), 2, [[.int .i64 v14.p, .slice q151a v14.aw.length q151c]]⟩] drawMixed (by kernel_rfl) nopan (by (repeat (first | exact Sub.refl _ | exact Sub.nil _ | refine Sub.chunk (by repeat (first | exact Pick.here | apply Pick.there | apply Pick.seg)) (by rfl) ?_ | refine Sub.seg (by repeat (first | exact PickSeg.here | exact PickSeg.all | apply PickSeg.there | apply PickSeg.seg)) ?_ | exact Sub.seg0 (by repeat (first | exact PickSeg.here | exact PickSeg.all | apply PickSeg.there | apply PickSeg.seg)) | apply Sub.assoc))) ?_
      refine kt_d rfl rfl rfl (v_ldB Try.isAgg29 Try.sizeOf29) ?_
      refine kt_d rfl rfl rfl (v_ldB Try.isAgg24 Try.sizeOf24) ?_
      refine kt_one ?_
      refine kl_k rfl rfl (n_call Try.call15 (w_laws_toMine aM01a aM0.aw.length aM01c hv21) ?_)
      rintro _ _ ⟨q231a, q231c, rfl, rfl⟩
      refine ⟨.inl (by (repeat (first | exact Sub.refl _ | exact Sub.nil _ | refine Sub.chunk (by repeat (first | exact Pick.here | apply Pick.there | apply Pick.seg)) (by rfl) ?_ | refine Sub.seg (by repeat (first | exact PickSeg.here | exact PickSeg.all | apply PickSeg.there | apply PickSeg.seg)) ?_ | exact Sub.seg0 (by repeat (first | exact PickSeg.here | exact PickSeg.all | apply PickSeg.there | apply PickSeg.seg)) | apply Sub.assoc))), ?_⟩
      refine kt_one ?_
      refine kl_k rfl rfl (n_call Try.call17 (w_laws_eqMine q151a v14.aw.length q151c q231a v22.aw.length q231c hv24) ?_)
      rintro _ _ ⟨rfl, rfl⟩
      refine ⟨.inl (by (repeat (first | exact Sub.refl _ | exact Sub.nil _ | refine Sub.chunk (by repeat (first | exact Pick.here | apply Pick.there | apply Pick.seg)) (by rfl) ?_ | refine Sub.seg (by repeat (first | exact PickSeg.here | exact PickSeg.all | apply PickSeg.there | apply PickSeg.seg)) ?_ | exact Sub.seg0 (by repeat (first | exact PickSeg.here | exact PickSeg.all | apply PickSeg.there | apply PickSeg.seg)) | apply Sub.assoc))), ?_⟩
      refine kt_d rfl rfl rfl (v_not) ?_
      refine kt_nil ?_
      refine kn_then ?_
      refine kwp_cond rfl (fun hc27 => ?_) (fun hc27 => ?_)
      ·
        replace h := e_t h hc27
        refine kwp_seq ?_
        refine kwp_region ?_
        refine kd (v_as) ?_
        refine kops_nil ?_
        refine kn_then ?_
        refine kwp_ret ?_
        refine kr_then ?_
        obtain rfl := e_some h
        refine r1 [] ?_
        exact ⟨rfl, rfl⟩
      ·
        replace h := e_f h hc27
        refine kwp_skip ?_
        refine kn_then ?_
        refine kwp_seq ?_
        refine kwp_region ?_
        refine kd (v_as) ?_
        refine kops_nil ?_
        refine kn_then ?_
        refine kwp_ret ?_
        obtain rfl := e_some h
        refine r1 [] ?_
        exact ⟨rfl, rfl⟩

end Go.Proofs.Ytkedammjdldloaa
