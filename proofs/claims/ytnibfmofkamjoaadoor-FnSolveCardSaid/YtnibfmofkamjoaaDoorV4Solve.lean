/- What the plain programs return, the functions of the program return; no condition. -/
import Derived.Test.YtnibfmofkamjoaaDoorQ4Solve
import Derived.Test.YtnibfmofkamjoaaDoorFa
import Derived.Test.YtnibfmofkamjoaaDoorVbx
import Derived.Test.YtnibfmofkamjoaaDoorVbt
import Derived.Test.YtnibfmofkamjoaaDoorVbs
import Derived.Test.YtnibfmofkamjoaaDoorVbc
namespace Go.Proofs.YtnibfmofkamjoaaDoor
open Go
set_option linter.unusedVariables false
set_option linter.unusedSimpArgs false

set_option maxRecDepth 20000 in
theorem w_spec_DrawSolve (code0a : Option Addr) (code0n : Nat) (code0c : Nat) {code0 : List UInt8} {r : List (List Int) × List Int} (h : p_spec_DrawSolve code0 = some r) :
    Triple Tryd.prog 59 [.slice code0a code0n code0c] [⟨.slice code0a code0n code0c, 1, code0.map encB⟩] [] (fun v ch => ∃ (w0a : Option Addr) (w0c : Nat) (w0R : List Row) (w1a : Option Addr) (w1c : Nat), v = .tuple #[.slice w0a r.1.length w0c, .slice w1a r.2.length w1c] ∧ nums w0R = r.1 ∧ ch = (⟨.slice w0a r.1.length w0c, 1, w0R.map encRow⟩ :: ⟨.slice w1a r.2.length w1c, 1, r.2.map encI⟩ :: (rowsC w0R))) := by
  refine triple_start 37 Tryd.func59 Tryd.ntmps59 rfl rfl (fun w0 => ?_)
  refine k_len (c := code0c) (fun hl1 => ?_)
  subst hl1
  unfold p_spec_DrawSolve at h
  refine kwp_seq ?_
  refine kwp_region ?_
  refine kops_nilM (fun R2 hR2 => ?_)
  refine kd (v_as) ?_
  refine kops_nilchunk 1 (by decide) ?_
  refine kd (v_as) ?_
  refine kops_nil ?_
  refine kn_then ?_
  refine kwp_seq ?_
  refine kwp_region ?_
  refine kd (v_mv) ?_
  obtain ⟨v4, hv3, h⟩ := e_bind h
  refine kk (n_call Tryd.call68 (w_spec_l20Open code0a code0.length code0c hv3) ?_)
  rintro _ _ ⟨q5p, q50a, q50c, rfl, hvwq5, rfl⟩
  refine kd (v_as) ?_
  refine kops_nil ?_
  refine kn_then ?_
  refine kwp_seq ?_
  refine kwp_region ?_
  refine kd (v_mv) ?_
  obtain ⟨⟨v7, v8⟩, hv6, h⟩ := e_bind h
  refine kk (n_call Tryd.call103 (w_spec_l20Matrix q5p q50a v4.b.length q50c hv6) ?_ (hv := (Views.cons (by repeat (first | exact mh | apply mt | apply mas | apply ms)) hvwq5 (Views.nil _))))
  rintro _ _ ⟨q9a, q9c, q9R, rfl, hq9R, rfl⟩
  refine kd (v_as) ?_
  refine kops_nil ?_
  refine kn_then ?_
  refine kwp_seq ?_
  refine kwp_region ?_
  refine kk (n_lit (enc := encI) [] ([] : List Int) Tryd.runUnderlying26 Tryd.sizeOf3 Tryd.zeroValue3 (fun a10 => ?_))
  refine kd (v_as) ?_
  refine kops_nil ?_
  refine kn_then ?_
  refine kwp_seq ?_
  refine kwp_seq ?_
  refine kwp_region ?_
  refine kd (v_as) ?_
  refine kops_nil ?_
  refine kn_then ?_
  refine kwp_cutE (inv := [(4, .pointer (some q5p)), (5, .slice q9a v7.length q9c)]) (fun (z : List Int × Int) (y : Option Addr × Nat × Nat) => [(6, .slice y.1 y.2.1 y.2.2)]) (fun (z : List Int × Int) (y : Option Addr × Nat × Nat) => (⟨.pointer (some q5p), 2, [[.slice q50a v4.b.length q50c, .int .i64 z.2]]⟩ :: ⟨.slice y.1 y.2.1 y.2.2, 1, z.1.map encI⟩ :: ⟨.slice q9a v7.length q9c, 1, q9R.map encRow⟩ :: (rowsC q9R))) (fun _ _ => True) h ?_ ?_
  · intro t15 h13
    refine kwp_block ?_
    refine kwp_loopE (inv := [(4, .pointer (some q5p)), (5, .slice q9a v7.length q9c)]) (fun (z : List Int × Int × Int) (y : Option Addr × Nat × Nat) => [(6, .slice y.1 y.2.1 y.2.2), (7, .int .i64 z.2.1)]) (fun (z : List Int × Int × Int) (y : Option Addr × Nat × Nat) => (⟨.pointer (some q5p), 2, [[.slice q50a v4.b.length q50c, .int .i64 z.2.2]]⟩ :: ⟨.slice y.1 y.2.1 y.2.2, 1, z.1.map encI⟩ :: ⟨.slice q9a v7.length q9c, 1, q9R.map encRow⟩ :: (rowsC q9R))) (fun _ _ => True) h13 ⟨(some a10, 0, 0), hd_mk trivial⟩ ?_
    intro z21 y22 b19 _ h20
    obtain ⟨right16, k17, p18⟩ := z21
    obtain ⟨right16a, right16n, right16c⟩ := y22
    refine k_len (c := right16c) (fun hl23 => ?_)
    subst hl23
    unfold p_spec_DrawSolve_L0 at h20
    refine kwp_seq ?_
    refine kwp_seq ?_
    refine kwp_region ?_
    refine kd (v_mv) ?_
    refine kd (v_mv) ?_
    refine kd (v_len Tryd.runUnderlying51) ?_
    refine kd (v_cmp) ?_
    refine kops_nil ?_
    refine kn_then ?_
    refine kwp_cond rfl (fun hc24 => ?_) (fun hc24 => ?_)
    ·
      replace h20 := e_t h20 hc24
      refine kwp_skip ?_
      refine kn_then ?_
      refine kwp_seq ?_
      refine kwp_block ?_
      refine kwp_region ?_
      refine kd (v_mv) ?_
      refine kd (v_mv) ?_
      obtain ⟨⟨v26, v27⟩, hv25, h20⟩ := e_bind h20
      refine kk (n_call Tryd.call70 (w_spec_l20Rd_pick q5p q50a v4.b.length q50c hv25) ?_ (hv := (Views.cons (by repeat (first | exact mh | apply mt | apply mas | apply ms)) hvwq5 (Views.nil _))))
      rintro _ _ ⟨rfl, rfl⟩
      refine kd (v_sub) ?_
      refine kd (v_mv) ?_
      obtain ⟨⟨v30, v31⟩, hv29, h20⟩ := e_bind h20
      refine kk (n_call Tryd.call70 (w_spec_l20Rd_pick q5p q50a v4.b.length q50c hv29) ?_ (hv := (Views.cons (by repeat (first | exact mh | apply mt | apply mas | apply ms)) hvwq5 (Views.nil _))))
      rintro _ _ ⟨rfl, rfl⟩
      refine kd (v_quo) ?_
      refine kd (v_mul) ?_
      refine kd (v_add) ?_
      refine kk (n_lit (enc := encI) [_] ([w64 ((w64 (v26 - 30)) + (w64 ((w64 (Int.tdiv v30 39)) * 999)))] : List Int) Tryd.runUnderlying26 Tryd.sizeOf3 Tryd.zeroValue3 (fun a33 => ?_))
      obtain ⟨hz34, h20⟩ := e_need h20
      refine kk (n_app (enc := encI) ok_encI hz34 Tryd.underlying26 Tryd.type3 (by decide) (fun a35 c36 => ?_))
      refine kd (v_as) ?_
      refine kops_nil ?_
      refine kn_block ?_
      refine kn_then ?_
      refine kwp_region ?_
      refine kd (v_mv) ?_
      refine kd (v_add) ?_
      refine kd (v_as) ?_
      refine kops_nil ?_
      refine kn_then ?_
      obtain rfl := e_some h20
      exact ⟨_, (a35, (right16 ++ ([w64 ((w64 (v26 - 30)) + (w64 ((w64 (Int.tdiv v30 39)) * 999)))] : List Int)).length, c36), rfl, hd_mk trivial⟩
    ·
      replace h20 := e_f h20 hc24
      refine kwp_exit ?_
      refine ke_then ?_
      obtain rfl := e_some h20
      refine k_out ?_ rfl
      rintro rfl
      refine ke_block ?_
      exact ⟨(right16a, right16.length, right16c), hd_mk trivial⟩
  · intro z37 y38 _ h39
    obtain ⟨right11, p12⟩ := z37
    obtain ⟨right11a, right11n, right11c⟩ := y38
    refine k_len (c := right11c) (fun hl40 => ?_)
    subst hl40
    refine kwp_seq ?_
    refine kwp_seq ?_
    refine kwp_region ?_
    refine kd (v_mv) ?_
    obtain ⟨⟨v42, v43⟩, hv41, h39⟩ := e_bind h39
    refine kk (n_call Tryd.call104 (w_spec_l20Rd_odd q5p q50a v4.b.length q50c hv41) ?_ (hv := (Views.cons (by repeat (first | exact mh | apply mt | apply mas | apply ms)) hvwq5 (Views.nil _))))
    rintro _ _ ⟨rfl, rfl⟩
    refine kops_nil ?_
    refine kn_then ?_
    refine kwp_cond rfl (fun hc45 => ?_) (fun hc45 => ?_)
    ·
      replace h39 := e_t h39 hc45
      refine kwp_region ?_
      refine kd (v_mv) ?_
      refine kk (n_lit (enc := encI) [_] ([1] : List Int) Tryd.runUnderlying26 Tryd.sizeOf3 Tryd.zeroValue3 (fun a46 => ?_))
      obtain ⟨hz47, h39⟩ := e_need h39
      refine kk (n_app (enc := encI) ok_encI hz47 Tryd.underlying26 Tryd.type3 (by decide) (fun a48 c49 => ?_))
      refine kd (v_as) ?_
      refine kops_nil ?_
      refine kn_then ?_
      refine kwp_seq ?_
      refine kwp_region ?_
      refine kd (v_mv) ?_
      refine kd (v_mv) ?_
      refine kd (v_as) ?_
      refine kd (v_as) ?_
      refine kops_nil ?_
      refine kn_then ?_
      refine kwp_ret ?_
      obtain rfl := e_some h39
      refine r2 (⟨.slice q9a v7.length q9c, 1, q9R.map encRow⟩ :: ⟨.slice a48 ((right11 ++ ([1] : List Int)).length) c49, 1, (right11 ++ ([1] : List Int)).map encI⟩ :: (rowsC q9R)) ?_
      exact ⟨q9a, q9c, q9R, a48, c49, rfl, hq9R, rfl⟩
    ·
      replace h39 := e_f h39 hc45
      refine kwp_skip ?_
      refine kn_then ?_
      refine kwp_seq ?_
      refine kwp_region ?_
      refine kd (v_mv) ?_
      refine kd (v_mv) ?_
      refine kd (v_as) ?_
      refine kd (v_as) ?_
      refine kops_nil ?_
      refine kn_then ?_
      refine kwp_ret ?_
      obtain rfl := e_some h39
      refine r2 (⟨.slice q9a v7.length q9c, 1, q9R.map encRow⟩ :: ⟨.slice right11a (right11.length) right11c, 1, right11.map encI⟩ :: (rowsC q9R)) ?_
      exact ⟨q9a, q9c, q9R, right11a, right11c, rfl, hq9R, rfl⟩

set_option maxRecDepth 20000 in
set_option maxHeartbeats 2000000 in
theorem w_laws_FnSolve (code0a : Option Addr) (code0n : Nat) (code0c : Nat) {code0 : List UInt8} {r : Bool} (h : p_laws_FnSolve code0 = some r) :
    Triple Tryd.prog 13 [.slice code0a code0n code0c] [⟨.slice code0a code0n code0c, 1, code0.map encB⟩, tabC] [] (fun v ch => v = .bool r ∧ ch = []) := by
  refine triple_start 87 Tryd.func13 Tryd.ntmps13 rfl rfl (fun w0 => ?_)
  refine k_len (c := code0c) (fun hl1 => ?_)
  subst hl1
  unfold p_laws_FnSolve at h
  refine kwp_seq ?_
  refine kwp_region ?_
  refine kd (v_as) ?_
  refine kops_nil ?_
  refine kn_then ?_
  refine kwp_seq ?_
  refine kwp_seq ?_
  refine kwp_region ?_
  refine kd (v_mv) ?_
  refine kd (v_len Tryd.runUnderlying22) ?_
  refine kd (v_cmp) ?_
  refine kops_nil ?_
  refine kn_then ?_
  refine kwp_cond rfl (fun hc2 => ?_) (fun hc2 => ?_)
  ·
    replace h := e_t h hc2
    refine kwp_seq ?_
    refine kwp_region ?_
    refine kd (v_as) ?_
    refine kops_nil ?_
    refine kn_then ?_
    refine kwp_ret ?_
    refine kr_then ?_
    obtain rfl := e_some h
    refine r1 [] ?_
    exact ⟨rfl, rfl⟩
  ·
    replace h := e_f h hc2
    refine kwp_skip ?_
    refine kn_then ?_
    refine kwp_seq ?_
    refine kwp_region ?_
    refine kd (v_mv) ?_
    obtain ⟨⟨v4, v5⟩, hv3, h⟩ := e_bind h
    refine kk (n_call Tryd.call59 (w_spec_DrawSolve code0a code0.length code0c hv3) ?_)
    rintro _ _ ⟨q6a, q6c, q6R, q7a, q7c, rfl, hq6R, rfl⟩
    refine kd (v_mv) ?_
    refine kd (v_ex) ?_
    refine kd (v_ex) ?_
    refine kd (v_as) ?_
    refine kd (v_as) ?_
    refine kops_nil ?_
    refine kn_then ?_
    refine kwp_seq ?_
    refine kwp_region ?_
    refine kd (v_mv) ?_
    refine kd (v_mv) ?_
    obtain ⟨⟨v9, v10⟩, hv8, h⟩ := e_bind h
    refine kk (n_call Tryd.call60 (w_impl_Solve q6a v4.length q6c q6R q7a v5.length q7c hq6R hv8) ?_)
    rintro _ _ ⟨q11a, q11c, rfl, rfl⟩
    refine kd (v_mv) ?_
    refine kd (v_ex) ?_
    refine kd (v_ex) ?_
    refine kd (v_as) ?_
    refine kd (v_as) ?_
    refine kops_nil ?_
    refine kn_then ?_
    refine kwp_seq ?_
    refine kwp_region ?_
    refine kd (v_mv) ?_
    refine kd (v_mv) ?_
    obtain ⟨⟨v14, v15⟩, hv13, h⟩ := e_bind h
    refine kk (n_call Tryd.call61 (w_spec_Solve q6a v4.length q6c q6R q7a v5.length q7c hq6R hv13) ?_)
    rintro _ _ ⟨q16a, q16c, rfl, rfl⟩
    refine kd (v_mv) ?_
    refine kd (v_ex) ?_
    refine kd (v_ex) ?_
    refine kd (v_as) ?_
    refine kd (v_as) ?_
    refine kops_nil ?_
    refine kn_then ?_
    refine kwp_seq ?_
    refine kwp_seq ?_
    refine kwp_cutE (inv := [(3, .slice q6a v4.length q6c), (4, .slice q7a v5.length q7c), (5, .slice q11a v9.length q11c), (6, .int .i64 v10)]) (fun (z : Bool) (y : Unit) => [(40, .bool z)]) (fun (z : Bool) (y : Unit) => (⟨.slice q6a v4.length q6c, 1, q6R.map encRow⟩ :: ⟨.slice q7a v5.length q7c, 1, v5.map encI⟩ :: ⟨.slice q11a v9.length q11c, 1, v9.map encI⟩ :: (rowsC q6R))) (fun _ _ => True) h ?_ ?_
    · intro t21 h19
      refine kwp_region ?_
      refine kd (v_mv) ?_
      refine kd (v_mv) ?_
      obtain ⟨v23, hv22, h19⟩ := e_bind h19
      refine kk (n_call Tryd.call50 (w_laws_sameInts q11a v9.length q11c q16a v14.length q16c hv22) ?_)
      rintro _ _ ⟨rfl, rfl⟩
      refine kd (v_not) ?_
      refine kd (v_mv) ?_
      refine kops_split 36 rfl (fun hb25 => ?_) (fun hb25 => ?_)
      ·
        replace h19 := e_t h19 hb25
        refine kskip hb25 ?_
        refine kskip hb25 ?_
        refine kskip hb25 ?_
        refine kd (v_pt hb25) ?_
        refine kops_nil ?_
        refine kn_then ?_
        obtain rfl := e_some h19
        exact ⟨(), hd_mk trivial⟩
      ·
        replace h19 := e_f h19 hb25
        refine kgd hb25 (v_mv) ?_
        refine kgd hb25 (v_mv) ?_
        refine kgd hb25 (v_cmp) ?_
        refine kd (v_pf hb25) ?_
        refine kops_nil ?_
        refine kn_then ?_
        obtain rfl := e_some h19
        exact ⟨(), hd_mk trivial⟩
    · intro x18 y27 _ h28
      refine kn_then ?_
      refine kwp_cond rfl (fun hc29 => ?_) (fun hc29 => ?_)
      ·
        replace h28 := e_t h28 hc29
        refine kwp_seq ?_
        refine kwp_region ?_
        refine kd (v_as) ?_
        refine kops_nil ?_
        refine kn_then ?_
        refine kwp_ret ?_
        refine kr_then ?_
        obtain rfl := e_some h28
        refine r1 [] ?_
        exact ⟨rfl, rfl⟩
      ·
        replace h28 := e_f h28 hc29
        refine kwp_skip ?_
        refine kn_then ?_
        refine kwp_seq ?_
        refine kwp_seq ?_
        refine kwp_region ?_
        refine kd (v_mv) ?_
        refine kd (v_cmp) ?_
        refine kops_nil ?_
        refine kn_then ?_
        refine kwp_cond rfl (fun hc30 => ?_) (fun hc30 => ?_)
        ·
          replace h28 := e_t h28 hc30
          refine kwp_seq ?_
          refine kwp_region ?_
          refine kd (v_mv) ?_
          refine kd (v_len Tryd.runUnderlying26) ?_
          refine kd (v_cmp) ?_
          refine kd (v_mv) ?_
          refine kops_split 46 rfl (fun hb31 => ?_) (fun hb31 => ?_)
          ·
            replace h28 := e_t h28 hb31
            obtain ⟨v33, hv32, h28⟩ := e_bind h28
            refine kgk hb31 (n_call Tryd.call19 (w_laws_alive hv32) ?_)
            rintro _ _ ⟨rfl, rfl⟩
            refine kd (v_pt hb31) ?_
            refine kd (v_as) ?_
            refine kops_nil ?_
            refine kn_then ?_
            refine kwp_ret ?_
            refine kr_then ?_
            obtain rfl := e_some h28
            refine r1 [] ?_
            exact ⟨rfl, rfl⟩
          ·
            replace h28 := e_f h28 hb31
            refine kskip hb31 ?_
            refine kd (v_pf hb31) ?_
            refine kd (v_as) ?_
            refine kops_nil ?_
            refine kn_then ?_
            refine kwp_ret ?_
            refine kr_then ?_
            obtain rfl := e_some h28
            refine r1 [] ?_
            exact ⟨rfl, rfl⟩
        ·
          replace h28 := e_f h28 hc30
          refine kwp_skip ?_
          refine kn_then ?_
          refine kwp_seq ?_
          refine kwp_seq ?_
          refine kwp_region ?_
          refine kd (v_as) ?_
          refine kops_nil ?_
          refine kn_then ?_
          refine kwp_cutO (inv := [(3, .slice q6a v4.length q6c), (6, .int .i64 v10)]) (fun (z : Unit) (y : Unit) => []) (fun (z : Unit) (y : Unit) => (⟨.slice q6a v4.length q6c, 1, q6R.map encRow⟩ :: (rowsC q6R))) (fun _ _ => True) h28 ?_ ?_
          · intro t37 h35 g36
            refine kwp_block ?_
            refine kwp_loopE (inv := [(3, .slice q6a v4.length q6c), (4, .slice q7a v5.length q7c), (5, .slice q11a v9.length q11c), (6, .int .i64 v10)]) (fun (z : Int) (y : Unit) => [(9, .int .i64 z)]) (fun (z : Int) (y : Unit) => (⟨.slice q6a v4.length q6c, 1, q6R.map encRow⟩ :: ⟨.slice q7a v5.length q7c, 1, v5.map encI⟩ :: ⟨.slice q11a v9.length q11c, 1, v9.map encI⟩ :: (rowsC q6R))) (fun _ _ => True) h35 ⟨(), hd_mk trivial⟩ ?_
            intro k38 y42 b39 _ h40
            unfold p_laws_FnSolve_L0 at h40
            refine kwp_seq ?_
            refine kwp_seq ?_
            refine kwp_region ?_
            refine kd (v_mv) ?_
            refine kd (v_mv) ?_
            refine kd (v_len Tryd.runUnderlying51) ?_
            refine kd (v_cmp) ?_
            refine kops_nil ?_
            refine kn_then ?_
            refine kwp_cond rfl (fun hc43 => ?_) (fun hc43 => ?_)
            ·
              replace h40 := e_t h40 hc43
              refine kwp_skip ?_
              refine kn_then ?_
              refine kwp_seq ?_
              refine kwp_block ?_
              refine kwp_seq ?_
              refine kwp_region ?_
              refine kd (v_as) ?_
              refine kops_nil ?_
              refine kn_then ?_
              refine kwp_seq ?_
              refine kwp_seq ?_
              refine kwp_region ?_
              refine kd (v_as) ?_
              refine kops_nil ?_
              refine kn_then ?_
              refine kwp_cutE (inv := [(3, .slice q6a v4.length q6c), (4, .slice q7a v5.length q7c), (5, .slice q11a v9.length q11c), (6, .int .i64 v10), (9, .int .i64 k38)]) (fun (z : Int) (y : Unit) => [(10, .int .i64 z)]) (fun (z : Int) (y : Unit) => (⟨.slice q6a v4.length q6c, 1, q6R.map encRow⟩ :: ⟨.slice q7a v5.length q7c, 1, v5.map encI⟩ :: ⟨.slice q11a v9.length q11c, 1, v9.map encI⟩ :: (rowsC q6R))) (fun _ _ => True) h40 ?_ ?_
              · intro t47 h45
                refine kwp_block ?_
                refine kwp_loopE (inv := [(3, .slice q6a v4.length q6c), (4, .slice q7a v5.length q7c), (5, .slice q11a v9.length q11c), (6, .int .i64 v10), (9, .int .i64 k38)]) (fun (z : Int × Int) (y : Unit) => [(10, .int .i64 z.1), (11, .int .i64 z.2)]) (fun (z : Int × Int) (y : Unit) => (⟨.slice q6a v4.length q6c, 1, q6R.map encRow⟩ :: ⟨.slice q7a v5.length q7c, 1, v5.map encI⟩ :: ⟨.slice q11a v9.length q11c, 1, v9.map encI⟩ :: (rowsC q6R))) (fun _ _ => True) h45 ⟨(), hd_mk trivial⟩ ?_
                intro z52 y53 b50 _ h51
                obtain ⟨sum48, j49⟩ := z52
                unfold p_laws_FnSolve_L1 at h51
                refine kwp_seq ?_
                refine kwp_seq ?_
                refine kwp_region ?_
                refine kd (v_mv) ?_
                refine kd (v_mv) ?_
                refine kd (v_len Tryd.runUnderlying51) ?_
                refine kd (v_cmp) ?_
                refine kops_nil ?_
                refine kn_then ?_
                refine kwp_cond rfl (fun hc54 => ?_) (fun hc54 => ?_)
                ·
                  replace h51 := e_t h51 hc54
                  refine kwp_skip ?_
                  refine kn_then ?_
                  refine kwp_seq ?_
                  refine kwp_block ?_
                  obtain ⟨j55, ej55, nj55, h51⟩ := e_idx h51
                  obtain ⟨j56, ej56, nj56, h51⟩ := e_idx h51
                  obtain ⟨j57, ej57, nj57, h51⟩ := e_idx h51
                  refine kwp_tree (.quiet 0 (.quiet 1 (.quiet 2 (.quiet 3 (.quiet 4 (.quiet 5 (.quiet 6 (.quiet 7 (.quiet 8 (.quiet 9 (.quiet 10 (.quiet 11 (.quiet 12 (.quiet 13 (.quiet 14 .stop))))))))))))))) [] (⟨.slice q6a v4.length q6c, 1, q6R.map encRow⟩ :: ⟨.slice q11a v9.length q11c, 1, v9.map encI⟩ :: (rowsC q6R)) drawMixed (by kernel_rfl) nopan (by (repeat (first | exact Sub.refl _ | exact Sub.nil _ | refine Sub.chunk (by repeat (first | exact Pick.here | apply Pick.there | apply Pick.seg)) (by rfl) ?_ | refine Sub.seg (by repeat (first | exact PickSeg.here | exact PickSeg.all | apply PickSeg.there | apply PickSeg.seg)) ?_ | exact Sub.seg0 (by repeat (first | exact PickSeg.here | exact PickSeg.all | apply PickSeg.there | apply PickSeg.seg)) | apply Sub.assoc))) ?_
                  refine kt_d rfl rfl rfl (v_mv) ?_
                  refine kt_d rfl rfl rfl (v_mv) ?_
                  refine kt_d rfl rfl rfl (v_mv) ?_
                  refine kt_d rfl rfl rfl (v_ia ej55 nj55 Tryd.runUnderlying51 Tryd.sizeOf26) ?_
                  refine kt_d rfl rfl rfl (v_ldr nj55 hq6R Tryd.isAgg26) ?_
                  refine kt_d rfl rfl rfl (v_mv) ?_
                  refine kt_d rfl rfl rfl (v_ia ej56 nj56 Tryd.runUnderlying26 Tryd.sizeOf3 (hm := by repeat (first | exact mr hq6R (by first | exact nj55 | (simpa using nj55) | omega | (simp only [List.length_set]; omega)) | exact mr0 hq6R (by first | exact nj55 | (simpa using nj55) | omega | (simp only [List.length_set]; omega)) | apply mt | apply mas | apply ms))) ?_
                  refine kt_d rfl rfl rfl (v_ldf nj56 Tryd.isAgg3 (hm := by repeat (first | exact mr hq6R (by first | exact nj55 | (simpa using nj55) | omega | (simp only [List.length_set]; omega)) | exact mr0 hq6R (by first | exact nj55 | (simpa using nj55) | omega | (simp only [List.length_set]; omega)) | apply mt | apply mas | apply ms))) ?_
                  refine kt_d rfl rfl rfl (v_mv) ?_
                  refine kt_d rfl rfl rfl (v_mv) ?_
                  refine kt_d rfl rfl rfl (v_ia ej57 nj57 Tryd.runUnderlying26 Tryd.sizeOf3) ?_
                  refine kt_d rfl rfl rfl (v_ldf nj57 Tryd.isAgg3) ?_
                  refine kt_d rfl rfl rfl (v_mul) ?_
                  refine kt_d rfl rfl rfl (v_add) ?_
                  refine kt_d rfl rfl rfl (v_as) ?_
                  refine kt_nil ?_
                  refine kn_block ?_
                  refine kn_then ?_
                  refine kwp_region ?_
                  refine kd (v_mv) ?_
                  refine kd (v_add) ?_
                  refine kd (v_as) ?_
                  refine kops_nil ?_
                  refine kn_then ?_
                  obtain rfl := e_some h51
                  exact ⟨_, (), rfl, hd_mk trivial⟩
                ·
                  replace h51 := e_f h51 hc54
                  refine kwp_exit ?_
                  refine ke_then ?_
                  obtain rfl := e_some h51
                  refine k_out ?_ rfl
                  rintro rfl
                  refine ke_block ?_
                  exact ⟨(), hd_mk trivial⟩
              · intro sum44 y59 _ h60
                refine kn_then ?_
                refine kwp_seq ?_
                refine kwp_region ?_
                refine kd (v_mv) ?_
                refine kd (v_mv) ?_
                refine kd (v_mv) ?_
                refine kd (v_mv) ?_
                obtain ⟨j61, ej61, nj61, h60⟩ := e_idx h60
                refine kd (v_ia ej61 nj61 Tryd.runUnderlying26 Tryd.sizeOf3) ?_
                refine kd (v_ldf nj61 Tryd.isAgg3) ?_
                refine kd (v_mul) ?_
                refine kd (v_cmp) ?_
                refine kops_nil ?_
                refine kn_then ?_
                refine kwp_cond rfl (fun hc62 => ?_) (fun hc62 => ?_)
                ·
                  replace h60 := e_t h60 hc62
                  refine kwp_seq ?_
                  refine kwp_region ?_
                  refine kd (v_as) ?_
                  refine kops_nil ?_
                  refine kn_then ?_
                  refine kwp_ret ?_
                  refine kr_block ?_
                  refine kr_then ?_
                  refine kr_then ?_
                  obtain rfl := e_some h60
                  refine k_out ?_ rfl
                  rintro rfl
                  refine kr_block ?_
                  refine kr_then ?_
                  refine kr_then ?_
                  obtain rfl := e_some g36
                  refine r1 [] ?_
                  exact ⟨rfl, rfl⟩
                ·
                  replace h60 := e_f h60 hc62
                  refine kwp_skip ?_
                  refine kn_block ?_
                  refine kn_then ?_
                  refine kwp_region ?_
                  refine kd (v_mv) ?_
                  refine kd (v_add) ?_
                  refine kd (v_as) ?_
                  refine kops_nil ?_
                  refine kn_then ?_
                  obtain rfl := e_some h60
                  exact ⟨_, (), rfl, hd_mk trivial⟩
            ·
              replace h40 := e_f h40 hc43
              refine kwp_exit ?_
              refine ke_then ?_
              obtain rfl := e_some h40
              refine k_out ?_ rfl
              rintro rfl
              refine ke_block ?_
              exact ⟨_, (), rfl, hd_mk trivial⟩
          · intro z63 y64 _ h65
            refine kn_then ?_
            refine kwp_seq ?_
            refine kwp_region ?_
            refine kd (v_mv) ?_
            refine kd (v_mv) ?_
            obtain ⟨v67, hv66, h65⟩ := e_bind h65
            refine kk (n_call Tryd.call62 (w_impl_Det q6a v4.length q6c q6R hq6R hv66) ?_)
            rintro _ _ ⟨rfl, rfl⟩
            refine kd (v_cmp) ?_
            refine kd (v_as) ?_
            refine kops_nil ?_
            refine kn_then ?_
            refine kwp_ret ?_
            obtain rfl := e_some h65
            refine r1 [] ?_
            exact ⟨rfl, rfl⟩

end Go.Proofs.YtnibfmofkamjoaaDoor
