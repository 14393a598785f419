/- What the plain programs return, the functions of the program return; no condition. -/
import Derived.Test.YtnibfmofkamjoaaDoorZQ
import Derived.Test.YtnibfmofkamjoaaDoorZFa
import Derived.Test.YtnibfmofkamjoaaDoorZVbg
import Derived.Test.YtnibfmofkamjoaaDoorZVbt
import Derived.Test.YtnibfmofkamjoaaDoorZVby
import Derived.Test.YtnibfmofkamjoaaDoorZVtf
import Derived.Test.YtnibfmofkamjoaaDoorZVbc
namespace Go.Proofs.YtnibfmofkamjoaaDoor
open Go
set_option linter.unusedVariables false
set_option linter.unusedSimpArgs false

set_option maxRecDepth 20000 in
theorem w_spec_DrawTreesFix (code0a : Option Addr) (code0n : Nat) (code0c : Nat) {code0 : List UInt8} {r : Survey} (h : p_spec_DrawTreesFix code0 = some r) :
    Triple Tryd.prog 24 [.slice code0a code0n code0c] [⟨.slice code0a code0n code0c, 1, code0.map encB⟩] [] (fun v ch => ∃ (w01a : Option Addr) (w01c : Nat), v = .agg #[.int .i64 r.st, .slice w01a r.legs.length w01c] ∧ ch = [⟨.slice w01a r.legs.length w01c, 5, r.legs.map encLeg⟩]) := by
  refine triple_start 6 Tryd.func24 Tryd.ntmps24 rfl rfl (fun w0 => ?_)
  refine k_len (c := code0c) (fun hl1 => ?_)
  subst hl1
  unfold p_spec_DrawTreesFix at h
  refine kwp_seq ?_
  refine kwp_region ?_
  refine kops_nilchunk 5 (by decide) ?_
  refine kk (n_alloc (e := [.int .i64 0, .slice none 0 0]) 2 Tryd.zeroValue25 (fun p2_2 => ?_))
  refine kops_nil ?_
  refine kn_then ?_
  refine kwp_seq ?_
  refine kwp_region ?_
  refine kd (v_mv) ?_
  obtain ⟨v4, hv3, h⟩ := e_bind h
  refine kk (n_call Tryd.call68 (w_spec_l20Open code0a code0.length code0c hv3) ?_)
  rintro _ _ ⟨q5p, q50a, q50c, rfl, hvwq5, rfl⟩
  obtain ⟨⟨v7, v8⟩, hv6, h⟩ := e_bind h
  refine kk (n_call Tryd.call69 (w_spec_l20Linked q5p q50a v4.b.length q50c hv6) ?_ (hv := (Views.cons (by repeat (first | exact mh | apply mt | apply mas | apply ms)) hvwq5 (Views.nil _))))
  rintro _ _ ⟨q91a, q91c, rfl, rfl⟩
  refine kk (s_B (e' := [.int .i64 v7.st, .slice q91a v7.legs.length q91c]) Tryd.sizeOf25 ?_)
  refine kops_nil ?_
  refine kn_then ?_
  refine kwp_ret ?_
  obtain rfl := e_some h
  refine rc Tryd.isAgg25 Tryd.sizeOf25 [⟨.slice q91a v7.legs.length q91c, 5, v7.legs.map encLeg⟩] ?_
  exact ⟨q91a, q91c, rfl, rfl⟩

set_option maxRecDepth 20000 in
theorem w_laws_FnTreesFix (code0a : Option Addr) (code0n : Nat) (code0c : Nat) {code0 : List UInt8} {r : Bool} (h : p_laws_FnTreesFix code0 = some r) :
    Triple Tryd.prog 4 [.slice code0a code0n code0c] [⟨.slice code0a code0n code0c, 1, code0.map encB⟩, tabC] [] (fun v ch => v = .bool r ∧ ch = []) := by
  refine triple_start 50 Tryd.func4 Tryd.ntmps4 rfl rfl (fun w0 => ?_)
  refine k_len (c := code0c) (fun hl1 => ?_)
  subst hl1
  unfold p_laws_FnTreesFix at h
  refine kwp_seq ?_
  refine kwp_region ?_
  refine kd (v_as) ?_
  refine kops_nil ?_
  refine kn_then ?_
  refine kwp_seq ?_
  refine kwp_seq ?_
  refine kwp_region ?_
  refine kd (v_mv) ?_
  refine kd (v_len Tryd.runUnderlying22) ?_
  refine kd (v_cmp) ?_
  refine kops_nil ?_
  refine kn_then ?_
  refine kwp_cond rfl (fun hc2 => ?_) (fun hc2 => ?_)
  ·
    replace h := e_t h hc2
    refine kwp_seq ?_
    refine kwp_region ?_
    refine kd (v_as) ?_
    refine kops_nil ?_
    refine kn_then ?_
    refine kwp_ret ?_
    refine kr_then ?_
    obtain rfl := e_some h
    refine r1 [] ?_
    exact ⟨rfl, rfl⟩
  ·
    replace h := e_f h hc2
    refine kwp_skip ?_
    refine kn_then ?_
    refine kwp_seq ?_
    refine kwp_region ?_
    refine kd (v_mv) ?_
    obtain ⟨v4, hv3, h⟩ := e_bind h
    refine kk (n_call Tryd.call24 (w_spec_DrawTreesFix code0a code0.length code0c hv3) ?_)
    rintro _ _ ⟨q51a, q51c, rfl, rfl⟩
    refine kops_nilchunk 5 (by decide) ?_
    refine kk (n_alloc (e := [.int .i64 0, .slice none 0 0]) 2 Tryd.zeroValue25 (fun p3_6 => ?_))
    refine kk (s_B (e' := [.int .i64 v4.st, .slice q51a v4.legs.length q51c]) Tryd.sizeOf25 ?_)
    refine kops_nil ?_
    refine kn_then ?_
    refine kwp_seq ?_
    refine kwp_region ?_
    refine kd (v_ldB Tryd.isAgg25 Tryd.sizeOf25) ?_
    obtain ⟨⟨v8, v9⟩, hv7, h⟩ := e_bind h
    refine kk (n_call Tryd.call25 (w_impl_TreesFix q51a v4.legs.length q51c hv7) ?_)
    rintro _ _ ⟨q101a, q101c, rfl, rfl⟩
    refine kd (v_mv) ?_
    refine kd (v_ex) ?_
    refine kd (v_ex) ?_
    refine kops_nilchunk 3 (by decide) ?_
    refine kk (n_alloc (e := [.int .i64 0, .slice none 0 0]) 2 Tryd.zeroValue31 (fun p4_12 => ?_))
    refine kk (s_B (e' := [.int .i64 v8.den, .slice q101a v8.nums.length q101c]) Tryd.sizeOf31 ?_)
    refine kd (v_as) ?_
    refine kops_nil ?_
    refine kn_then ?_
    refine kwp_seq ?_
    refine kwp_region ?_
    refine kd (v_ldB Tryd.isAgg25 Tryd.sizeOf25) ?_
    obtain ⟨⟨v14, v15⟩, hv13, h⟩ := e_bind h
    refine kk (n_call Tryd.call26 (w_spec_TreesFix q51a v4.legs.length q51c hv13) ?_)
    rintro _ _ ⟨q161a, q161c, rfl, rfl⟩
    refine kd (v_mv) ?_
    refine kd (v_ex) ?_
    refine kd (v_ex) ?_
    refine kops_nilchunk 3 (by decide) ?_
    refine kk (n_alloc (e := [.int .i64 0, .slice none 0 0]) 2 Tryd.zeroValue31 (fun p6_18 => ?_))
    refine kk (s_B (e' := [.int .i64 v14.den, .slice q161a v14.nums.length q161c]) Tryd.sizeOf31 ?_)
    refine kd (v_as) ?_
    refine kops_nil ?_
    refine kn_then ?_
    refine kwp_seq ?_
    refine kwp_seq ?_
    refine kwp_cutE (inv := [(3, .pointer (some p3_6)), (4, .pointer (some p4_12)), (5, .bool v9)]) (fun (z : Bool) (y : Unit) => [(33, .bool z)]) (fun (z : Bool) (y : Unit) => [⟨.pointer (some p3_6), 2, [[.int .i64 v4.st, .slice q51a v4.legs.length q51c]]⟩, ⟨.slice q51a v4.legs.length q51c, 5, v4.legs.map encLeg⟩, ⟨.pointer (some p4_12), 2, [[.int .i64 v8.den, .slice q101a v8.nums.length q101c]]⟩, ⟨.slice q101a v8.nums.length q101c, 3, v8.nums.map encWay⟩]) (fun _ _ => True) h ?_ ?_
    · intro t22 h20
      refine kwp_region ?_
      refine kd (v_ldB Tryd.isAgg31 Tryd.sizeOf31) ?_
      refine kd (v_ldB Tryd.isAgg31 Tryd.sizeOf31) ?_
      obtain ⟨v24, hv23, h20⟩ := e_bind h20
      refine kk (n_call Tryd.call18 (w_laws_sameFix q101a v8.nums.length q101c q161a v14.nums.length q161c hv23) ?_)
      rintro _ _ ⟨rfl, rfl⟩
      refine kd (v_not) ?_
      refine kd (v_mv) ?_
      refine kops_split 29 rfl (fun hb26 => ?_) (fun hb26 => ?_)
      ·
        replace h20 := e_t h20 hb26
        refine kskip hb26 ?_
        refine kskip hb26 ?_
        refine kskip hb26 ?_
        refine kd (v_pt hb26) ?_
        refine kops_nil ?_
        refine kn_then ?_
        obtain rfl := e_some h20
        exact ⟨(), hd_mk trivial⟩
      ·
        replace h20 := e_f h20 hb26
        refine kgd hb26 (v_mv) ?_
        refine kgd hb26 (v_mv) ?_
        refine kgd hb26 (v_neb Tryd.underlying4) ?_
        refine kd (v_pf hb26) ?_
        refine kops_nil ?_
        refine kn_then ?_
        obtain rfl := e_some h20
        exact ⟨(), hd_mk trivial⟩
    · intro x19 y28 _ h29
      refine kn_then ?_
      refine kwp_cond rfl (fun hc30 => ?_) (fun hc30 => ?_)
      ·
        replace h29 := e_t h29 hc30
        refine kwp_seq ?_
        refine kwp_region ?_
        refine kd (v_as) ?_
        refine kops_nil ?_
        refine kn_then ?_
        refine kwp_ret ?_
        refine kr_then ?_
        obtain rfl := e_some h29
        refine r1 [] ?_
        exact ⟨rfl, rfl⟩
      ·
        replace h29 := e_f h29 hc30
        refine kwp_skip ?_
        refine kn_then ?_
        refine kwp_seq ?_
        refine kwp_region ?_
        refine kd (v_ldB Tryd.isAgg25 Tryd.sizeOf25) ?_
        obtain ⟨⟨v32, v33⟩, hv31, h29⟩ := e_bind h29
        refine kk (n_call Tryd.call21 (w_impl_Adjust q51a v4.legs.length q51c hv31) ?_)
        rintro _ _ ⟨q341a, q341c, rfl, rfl⟩
        refine kd (v_mv) ?_
        refine kd (v_ex) ?_
        refine kd (v_ex) ?_
        refine kops_nilchunk 3 (by decide) ?_
        refine kk (n_alloc (e := [.int .i64 0, .slice none 0 0]) 2 Tryd.zeroValue31 (fun p8_36 => ?_))
        refine kk (s_B (e' := [.int .i64 v32.den, .slice q341a v32.nums.length q341c]) Tryd.sizeOf31 ?_)
        refine kd (v_as) ?_
        refine kops_nil ?_
        refine kn_then ?_
        refine kwp_seq ?_
        refine kwp_region ?_
        refine kd (v_mv) ?_
        refine kd (v_mv) ?_
        refine kd (v_eqb Tryd.underlying4) ?_
        refine kd (v_mv) ?_
        refine kops_split 42 rfl (fun hb37 => ?_) (fun hb37 => ?_)
        ·
          replace h29 := e_t h29 hb37
          refine kgd hb37 (v_ldB Tryd.isAgg31 Tryd.sizeOf31) ?_
          refine kgd hb37 (v_ldB Tryd.isAgg31 Tryd.sizeOf31) ?_
          obtain ⟨v39, hv38, h29⟩ := e_bind h29
          refine kgk hb37 (n_call Tryd.call18 (w_laws_sameFix q101a v8.nums.length q101c q341a v32.nums.length q341c hv38) ?_)
          rintro _ _ ⟨rfl, rfl⟩
          refine kd (v_pt hb37) ?_
          refine kd (v_mv) ?_
          refine kops_split 47 rfl (fun hb41 => ?_) (fun hb41 => ?_)
          ·
            replace h29 := e_t h29 hb41
            obtain ⟨v43, hv42, h29⟩ := e_bind h29
            refine kgk hb41 (n_call Tryd.call19 (w_laws_alive hv42) ?_)
            rintro _ _ ⟨rfl, rfl⟩
            refine kd (v_pt hb41) ?_
            refine kd (v_as) ?_
            refine kops_nil ?_
            refine kn_then ?_
            refine kwp_ret ?_
            obtain rfl := e_some h29
            refine r1 [] ?_
            exact ⟨rfl, rfl⟩
          ·
            replace h29 := e_f h29 hb41
            refine kskip hb41 ?_
            refine kd (v_pf hb41) ?_
            refine kd (v_as) ?_
            refine kops_nil ?_
            refine kn_then ?_
            refine kwp_ret ?_
            obtain rfl := e_some h29
            refine r1 [] ?_
            exact ⟨rfl, rfl⟩
        ·
          replace h29 := e_f h29 hb37
          refine kskip hb37 ?_
          refine kskip hb37 ?_
          refine kskip hb37 ?_
          refine kd (v_pf hb37) ?_
          refine kd (v_mv) ?_
          refine kskip rfl ?_
          refine kd (v_pf rfl) ?_
          refine kd (v_as) ?_
          refine kops_nil ?_
          refine kn_then ?_
          refine kwp_ret ?_
          obtain rfl := e_some h29
          refine r1 [] ?_
          exact ⟨rfl, rfl⟩

end Go.Proofs.YtnibfmofkamjoaaDoor
