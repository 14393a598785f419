/- What the plain programs return, the functions of the program return; no condition. -/
import Derived.Test.YtkedammjdldloaaQ2AirResist
import Derived.Test.YtkedammjdldloaaFa
import Derived.Test.YtkedammjdldloaaVea
import Derived.Test.YtkedammjdldloaaVef
import Derived.Test.YtkedammjdldloaaVbs
namespace Go.Proofs.Ytkedammjdldloaa
open Go
set_option linter.unusedVariables false
set_option linter.unusedSimpArgs false

set_option maxRecDepth 20000 in
theorem w_laws_FnExactAirResist (aM01a : Option Addr) (aM01n : Nat) (aM01c : Nat) {aM0 : Mine} {aA0 : Int} {aB0 : Int} {r : Bool} (h : p_laws_FnExactAirResist aM0 aA0 aB0 = some r) :
    Triple Try.prog 6 [.agg #[.int .i64 aM0.p, .slice aM01a aM01n aM01c], .int .i64 aA0, .int .i64 aB0] [⟨.slice aM01a aM01n aM01c, 3, aM0.aw.map encAirway⟩] [] (fun v ch => v = .bool r ∧ ch = []) := by
  refine triple_start 49 Try.func6 Try.ntmps6 rfl rfl (fun w0 => ?_)
  refine k_len (c := aM01c) (fun hl1 => ?_)
  subst hl1
  unfold p_laws_FnExactAirResist at h
  refine kwp_seq ?_
  refine kwp_region ?_
  refine kk (n_box (e := [.int .i64 aM0.p, .slice aM01a aM0.aw.length aM01c]) 2 (fun p3_2 => ?_))
  refine kd (v_as) ?_
  refine kops_nil ?_
  refine kn_then ?_
  refine kwp_seq ?_
  refine kwp_region ?_
  refine kd (v_as) ?_
  refine kops_nil ?_
  refine kn_then ?_
  refine kwp_seq ?_
  refine kwp_region ?_
  refine kd (v_ldB Try.isAgg24 Try.sizeOf24) ?_
  refine kd (v_mv) ?_
  obtain ⟨v4, hv3, h⟩ := e_bind h
  refine kk (n_call Try.call13 (w_laws_szMine aM01a aM0.aw.length aM01c hv3) ?_)
  rintro _ _ ⟨rfl, rfl⟩
  refine kd (v_as) ?_
  refine kops_nil ?_
  refine kn_then ?_
  refine kwp_seq ?_
  refine kwp_seq ?_
  refine kwp_region ?_
  refine kd (v_mv) ?_
  refine kd (v_cmp) ?_
  refine kops_nil ?_
  refine kn_then ?_
  refine kwp_cond rfl (fun hc6 => ?_) (fun hc6 => ?_)
  ·
    replace h := e_t h hc6
    refine kwp_seq ?_
    refine kwp_region ?_
    refine kd (v_as) ?_
    refine kops_nil ?_
    refine kn_then ?_
    refine kwp_ret ?_
    refine kr_then ?_
    obtain rfl := e_some h
    refine r1 [] ?_
    exact ⟨rfl, rfl⟩
  ·
    replace h := e_f h hc6
    refine kwp_skip ?_
    refine kn_then ?_
    refine kwp_seq ?_
    refine kwp_region ?_
    refine kd (v_ldB Try.isAgg24 Try.sizeOf24) ?_
    obtain ⟨v8, hv7, h⟩ := e_bind h
    refine kk (n_call Try.call15 (w_laws_toMine aM01a aM0.aw.length aM01c hv7) ?_)
    rintro _ _ ⟨q91a, q91c, rfl, rfl⟩
    refine kd (v_mv) ?_
    refine kd (v_mv) ?_
    obtain ⟨⟨v11, v12⟩, hv10, h⟩ := e_bind h
    refine kk (n_call Try.call29 (w_spec_AirResist q91a v8.aw.length q91c hv10) ?_)
    rintro _ _ ⟨rfl, rfl⟩
    refine kd (v_mv) ?_
    refine kd (v_ex) ?_
    refine kd (v_ex) ?_
    refine kk (n_alloc (e := [.int .i64 0, .int .i64 0]) 2 Try.zeroValue51 (fun p8_15 => ?_))
    refine kk (s_B (e' := [.int .i64 v11.num, .int .i64 v11.den]) Try.sizeOf51 ?_)
    refine kd (v_as) ?_
    refine kops_nil ?_
    refine kn_then ?_
    refine kwp_seq ?_
    refine kwp_region ?_
    refine kd (v_ldB Try.isAgg24 Try.sizeOf24) ?_
    obtain ⟨v17, hv16, h⟩ := e_bind h
    refine kk (n_call Try.call15 (w_laws_toMine aM01a aM0.aw.length aM01c hv16) ?_)
    rintro _ _ ⟨q181a, q181c, rfl, rfl⟩
    refine kops_nilchunk 3 (by decide) ?_
    refine kk (n_alloc (e := [.int .i64 0, .slice none 0 0]) 2 Try.zeroValue29 (fun p10_19 => ?_))
    refine kk (s_B (e' := [.int .i64 v17.p, .slice q181a v17.aw.length q181c]) Try.sizeOf29 ?_)
    refine kops_nil ?_
    refine kn_then ?_
    refine kwp_seq ?_
    refine kwp_region ?_
    refine kd (v_ldB Try.isAgg29 Try.sizeOf29) ?_
    refine kd (v_mv) ?_
    refine kd (v_mv) ?_
    obtain ⟨⟨v21, v22⟩, hv20, h⟩ := e_bind h
    refine kk (n_call Try.call30 (w_impl_AirResist q181a v17.aw.length q181c hv20) ?_)
    rintro _ _ ⟨rfl, rfl⟩
    refine kd (v_mv) ?_
    refine kd (v_ex) ?_
    refine kd (v_ex) ?_
    refine kk (n_alloc (e := [.int .i64 0, .int .i64 0]) 2 Try.zeroValue51 (fun p11_25 => ?_))
    refine kk (s_B (e' := [.int .i64 v21.num, .int .i64 v21.den]) Try.sizeOf51 ?_)
    refine kd (v_as) ?_
    refine kops_nil ?_
    refine kn_then ?_
    refine kwp_seq ?_
    refine kwp_seq ?_
    refine kwp_cutE (inv := [(3, .pointer (some p3_2)), (10, .pointer (some p10_19))]) (fun (z : Bool) (y : Unit) => [(43, .bool z)]) (fun (z : Bool) (y : Unit) => [⟨.pointer (some p3_2), 2, [[.int .i64 aM0.p, .slice aM01a aM0.aw.length aM01c]]⟩, ⟨.pointer (some p10_19), 2, [[.int .i64 v17.p, .slice q181a v17.aw.length q181c]]⟩, ⟨.slice q181a v17.aw.length q181c, 3, v17.aw.map encAirway⟩]) (fun _ _ => True) h ?_ ?_
    · intro t29 h27
      refine kwp_region ?_
      refine kd (v_ldB Try.isAgg51 Try.sizeOf51) ?_
      refine kd (v_ldB Try.isAgg51 Try.sizeOf51) ?_
      obtain ⟨v31, hv30, h27⟩ := e_bind h27
      refine kk (n_call Try.call31 (w_laws_eqFrac hv30) ?_)
      rintro _ _ ⟨rfl, rfl⟩
      refine kd (v_not) ?_
      refine kd (v_mv) ?_
      refine kops_split 39 rfl (fun hb33 => ?_) (fun hb33 => ?_)
      ·
        replace h27 := e_t h27 hb33
        refine kskip hb33 ?_
        refine kskip hb33 ?_
        refine kskip hb33 ?_
        refine kd (v_pt hb33) ?_
        refine kops_nil ?_
        refine kn_then ?_
        obtain rfl := e_some h27
        exact ⟨(), hd_mk trivial⟩
      ·
        replace h27 := e_f h27 hb33
        refine kgd hb33 (v_mv) ?_
        refine kgd hb33 (v_mv) ?_
        refine kgd hb33 (v_neb Try.underlying4) ?_
        refine kd (v_pf hb33) ?_
        refine kops_nil ?_
        refine kn_then ?_
        obtain rfl := e_some h27
        exact ⟨(), hd_mk trivial⟩
    · intro x26 y35 _ h36
      refine kn_then ?_
      refine kwp_cond rfl (fun hc37 => ?_) (fun hc37 => ?_)
      ·
        replace h36 := e_t h36 hc37
        refine kwp_seq ?_
        refine kwp_region ?_
        refine kd (v_as) ?_
        refine kops_nil ?_
        refine kn_then ?_
        refine kwp_ret ?_
        refine kr_then ?_
        obtain rfl := e_some h36
        refine r1 [] ?_
        exact ⟨rfl, rfl⟩
      ·
        replace h36 := e_f h36 hc37
        refine kwp_skip ?_
        refine kn_then ?_
        refine kwp_seq ?_
        refine kwp_seq ?_
        obtain ⟨v39, hv38, h36⟩ := e_bind h36
        obtain ⟨v42, hv41, h36⟩ := e_bind h36
        refine kwp_tree (.quiet 0 (.quiet 1 (.one 2 (.one 3 (.quiet 4 .stop))))) [] [⟨.pointer (some p3_2), 2, [[.int .i64 aM0.p, .slice aM01a aM0.aw.length aM01c]]⟩, ⟨.pointer (some p10_19), 2, [[.int .i64 v17.p, .slice q181a v17.aw.length q181c]]⟩] drawMixed (by kernel_rfl) nopan (by (repeat (first | exact Sub.refl _ | exact Sub.nil _ | refine Sub.chunk (by repeat (first | exact Pick.here | apply Pick.there | apply Pick.seg)) (by rfl) ?_ | refine Sub.seg (by repeat (first | exact PickSeg.here | exact PickSeg.all | apply PickSeg.there | apply PickSeg.seg)) ?_ | exact Sub.seg0 (by repeat (first | exact PickSeg.here | exact PickSeg.all | apply PickSeg.there | apply PickSeg.seg)) | apply Sub.assoc))) ?_
        refine kt_d rfl rfl rfl (v_ldB Try.isAgg29 Try.sizeOf29) ?_
        refine kt_d rfl rfl rfl (v_ldB Try.isAgg24 Try.sizeOf24) ?_
        refine kt_one ?_
        refine kl_k rfl rfl (n_call Try.call15 (w_laws_toMine aM01a aM0.aw.length aM01c hv38) ?_)
        rintro _ _ ⟨q401a, q401c, rfl, rfl⟩
        refine ⟨.inl (by (repeat (first | exact Sub.refl _ | exact Sub.nil _ | refine Sub.chunk (by repeat (first | exact Pick.here | apply Pick.there | apply Pick.seg)) (by rfl) ?_ | refine Sub.seg (by repeat (first | exact PickSeg.here | exact PickSeg.all | apply PickSeg.there | apply PickSeg.seg)) ?_ | exact Sub.seg0 (by repeat (first | exact PickSeg.here | exact PickSeg.all | apply PickSeg.there | apply PickSeg.seg)) | apply Sub.assoc))), ?_⟩
        refine kt_one ?_
        refine kl_k rfl rfl (n_call Try.call17 (w_laws_eqMine q181a v17.aw.length q181c q401a v39.aw.length q401c hv41) ?_)
        rintro _ _ ⟨rfl, rfl⟩
        refine ⟨.inl (by (repeat (first | exact Sub.refl _ | exact Sub.nil _ | refine Sub.chunk (by repeat (first | exact Pick.here | apply Pick.there | apply Pick.seg)) (by rfl) ?_ | refine Sub.seg (by repeat (first | exact PickSeg.here | exact PickSeg.all | apply PickSeg.there | apply PickSeg.seg)) ?_ | exact Sub.seg0 (by repeat (first | exact PickSeg.here | exact PickSeg.all | apply PickSeg.there | apply PickSeg.seg)) | apply Sub.assoc))), ?_⟩
        refine kt_d rfl rfl rfl (v_not) ?_
        refine kt_nil ?_
        refine kn_then ?_
        refine kwp_cond rfl (fun hc44 => ?_) (fun hc44 => ?_)
        ·
          replace h36 := e_t h36 hc44
          refine kwp_seq ?_
          refine kwp_region ?_
          refine kd (v_as) ?_
          refine kops_nil ?_
          refine kn_then ?_
          refine kwp_ret ?_
          refine kr_then ?_
          obtain rfl := e_some h36
          refine r1 [] ?_
          exact ⟨rfl, rfl⟩
        ·
          replace h36 := e_f h36 hc44
          refine kwp_skip ?_
          refine kn_then ?_
          refine kwp_seq ?_
          refine kwp_region ?_
          refine kd (v_as) ?_
          refine kops_nil ?_
          refine kn_then ?_
          refine kwp_ret ?_
          obtain rfl := e_some h36
          refine r1 [] ?_
          exact ⟨rfl, rfl⟩

end Go.Proofs.Ytkedammjdldloaa
