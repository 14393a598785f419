/- What the plain programs return, the functions of the program return; no condition. -/
import Derived.Test.YtnibfmofkamjoaaDoorQ4Links
import Derived.Test.YtnibfmofkamjoaaDoorFa
import Derived.Test.YtnibfmofkamjoaaDoorVbg
import Derived.Test.YtnibfmofkamjoaaDoorVbt
import Derived.Test.YtnibfmofkamjoaaDoorVbl
import Derived.Test.YtnibfmofkamjoaaDoorVbc
namespace Go.Proofs.YtnibfmofkamjoaaDoor
open Go
set_option linter.unusedVariables false
set_option linter.unusedSimpArgs false

set_option maxRecDepth 20000 in
theorem w_spec_DrawLinks (code0a : Option Addr) (code0n : Nat) (code0c : Nat) {code0 : List UInt8} {r : Survey} (h : p_spec_DrawLinks code0 = some r) :
    Triple Tryd.prog 35 [.slice code0a code0n code0c] [⟨.slice code0a code0n code0c, 1, code0.map encB⟩] [] (fun v ch => ∃ (w01a : Option Addr) (w01c : Nat), v = .agg #[.int .i64 r.st, .slice w01a r.legs.length w01c] ∧ ch = [⟨.slice w01a r.legs.length w01c, 5, r.legs.map encLeg⟩]) := by
  refine triple_start 6 Tryd.func35 Tryd.ntmps35 rfl rfl (fun w0 => ?_)
  refine k_len (c := code0c) (fun hl1 => ?_)
  subst hl1
  unfold p_spec_DrawLinks at h
  refine kwp_seq ?_
  refine kwp_region ?_
  refine kops_nilchunk 5 (by decide) ?_
  refine kk (n_alloc (e := [.int .i64 0, .slice none 0 0]) 2 Tryd.zeroValue25 (fun p2_2 => ?_))
  refine kops_nil ?_
  refine kn_then ?_
  refine kwp_seq ?_
  refine kwp_region ?_
  refine kd (v_mv) ?_
  obtain ⟨v4, hv3, h⟩ := e_bind h
  refine kk (n_call Tryd.call68 (w_spec_l20Open code0a code0.length code0c hv3) ?_)
  rintro _ _ ⟨q5p, q50a, q50c, rfl, hvwq5, rfl⟩
  obtain ⟨⟨v7, v8⟩, hv6, h⟩ := e_bind h
  refine kk (n_call Tryd.call69 (w_spec_l20Linked q5p q50a v4.b.length q50c hv6) ?_ (hv := (Views.cons (by repeat (first | exact mh | apply mt | apply mas | apply ms)) hvwq5 (Views.nil _))))
  rintro _ _ ⟨q91a, q91c, rfl, rfl⟩
  refine kk (s_B (e' := [.int .i64 v7.st, .slice q91a v7.legs.length q91c]) Tryd.sizeOf25 ?_)
  refine kops_nil ?_
  refine kn_then ?_
  refine kwp_ret ?_
  obtain rfl := e_some h
  refine rc Tryd.isAgg25 Tryd.sizeOf25 [⟨.slice q91a v7.legs.length q91c, 5, v7.legs.map encLeg⟩] ?_
  exact ⟨q91a, q91c, rfl, rfl⟩

set_option maxRecDepth 20000 in
set_option maxHeartbeats 2000000 in
theorem w_laws_FnLinks (code0a : Option Addr) (code0n : Nat) (code0c : Nat) {code0 : List UInt8} {r : Bool} (h : p_laws_FnLinks code0 = some r) :
    Triple Tryd.prog 6 [.slice code0a code0n code0c] [⟨.slice code0a code0n code0c, 1, code0.map encB⟩, tabC] [] (fun v ch => v = .bool r ∧ ch = []) := by
  refine triple_start 104 Tryd.func6 Tryd.ntmps6 rfl rfl (fun w0 => ?_)
  refine k_len (c := code0c) (fun hl1 => ?_)
  subst hl1
  unfold p_laws_FnLinks at h
  refine kwp_seq ?_
  refine kwp_region ?_
  refine kd (v_as) ?_
  refine kops_nil ?_
  refine kn_then ?_
  refine kwp_seq ?_
  refine kwp_seq ?_
  refine kwp_region ?_
  refine kd (v_mv) ?_
  refine kd (v_len Tryd.runUnderlying22) ?_
  refine kd (v_cmp) ?_
  refine kops_nil ?_
  refine kn_then ?_
  refine kwp_cond rfl (fun hc2 => ?_) (fun hc2 => ?_)
  ·
    replace h := e_t h hc2
    refine kwp_seq ?_
    refine kwp_region ?_
    refine kd (v_as) ?_
    refine kops_nil ?_
    refine kn_then ?_
    refine kwp_ret ?_
    refine kr_then ?_
    obtain rfl := e_some h
    refine r1 [] ?_
    exact ⟨rfl, rfl⟩
  ·
    replace h := e_f h hc2
    refine kwp_skip ?_
    refine kn_then ?_
    refine kwp_seq ?_
    refine kwp_region ?_
    refine kd (v_mv) ?_
    obtain ⟨v4, hv3, h⟩ := e_bind h
    refine kk (n_call Tryd.call35 (w_spec_DrawLinks code0a code0.length code0c hv3) ?_)
    rintro _ _ ⟨q51a, q51c, rfl, rfl⟩
    refine kops_nilchunk 5 (by decide) ?_
    refine kk (n_alloc (e := [.int .i64 0, .slice none 0 0]) 2 Tryd.zeroValue25 (fun p3_6 => ?_))
    refine kk (s_B (e' := [.int .i64 v4.st, .slice q51a v4.legs.length q51c]) Tryd.sizeOf25 ?_)
    refine kops_nil ?_
    refine kn_then ?_
    refine kwp_seq ?_
    refine kwp_region ?_
    refine kd (v_ldB Tryd.isAgg25 Tryd.sizeOf25) ?_
    obtain ⟨v8, hv7, h⟩ := e_bind h
    refine kk (n_call Tryd.call36 (w_impl_Links q51a v4.legs.length q51c hv7) ?_)
    rintro _ _ ⟨q9a, q9c, q9R, rfl, hq9R, rfl⟩
    refine kd (v_as) ?_
    refine kops_nil ?_
    refine kn_then ?_
    refine kwp_seq ?_
    refine kwp_seq ?_
    refine kwp_region ?_
    refine kd (v_mv) ?_
    refine kd (v_ldB Tryd.isAgg25 Tryd.sizeOf25) ?_
    obtain ⟨v11, hv10, h⟩ := e_bind h
    refine kk (n_call Tryd.call38 (w_spec_Links q51a v4.legs.length q51c hv10) ?_)
    rintro _ _ ⟨q12a, q12c, q12R, rfl, hq12R, rfl⟩
    obtain ⟨v14, hv13, h⟩ := e_bind h
    refine kk (n_call Tryd.call37 (w_laws_sameLists q9a v8.length q9c q9R q12a v11.length q12c q12R hq9R hq12R hv13) ?_)
    rintro _ _ ⟨rfl, rfl⟩
    refine kd (v_not) ?_
    refine kops_nil ?_
    refine kn_then ?_
    refine kwp_cond rfl (fun hc16 => ?_) (fun hc16 => ?_)
    ·
      replace h := e_t h hc16
      refine kwp_seq ?_
      refine kwp_region ?_
      refine kd (v_as) ?_
      refine kops_nil ?_
      refine kn_then ?_
      refine kwp_ret ?_
      refine kr_then ?_
      obtain rfl := e_some h
      refine r1 [] ?_
      exact ⟨rfl, rfl⟩
    ·
      replace h := e_f h hc16
      refine kwp_skip ?_
      refine kn_then ?_
      refine kwp_seq ?_
      refine kwp_seq ?_
      refine kwp_region ?_
      refine kd (v_ldB Tryd.isAgg25 Tryd.sizeOf25) ?_
      obtain ⟨v18, hv17, h⟩ := e_bind h
      refine kk (n_call Tryd.call39 (w_spec_SurveyValid q51a v4.legs.length q51c hv17) ?_)
      rintro _ _ ⟨rfl, rfl⟩
      refine kd (v_not) ?_
      refine kops_nil ?_
      refine kn_then ?_
      refine kwp_cond rfl (fun hc20 => ?_) (fun hc20 => ?_)
      ·
        replace h := e_t h hc20
        refine kwp_seq ?_
        refine kwp_region ?_
        refine kd (v_mv) ?_
        refine kd (v_len Tryd.runUnderlying51) ?_
        refine kd (v_cmp) ?_
        refine kd (v_mv) ?_
        refine kops_split 29 rfl (fun hb21 => ?_) (fun hb21 => ?_)
        ·
          replace h := e_t h hb21
          obtain ⟨v23, hv22, h⟩ := e_bind h
          refine kgk hb21 (n_call Tryd.call19 (w_laws_alive hv22) ?_)
          rintro _ _ ⟨rfl, rfl⟩
          refine kd (v_pt hb21) ?_
          refine kd (v_as) ?_
          refine kops_nil ?_
          refine kn_then ?_
          refine kwp_ret ?_
          refine kr_then ?_
          obtain rfl := e_some h
          refine r1 [] ?_
          exact ⟨rfl, rfl⟩
        ·
          replace h := e_f h hb21
          refine kskip hb21 ?_
          refine kd (v_pf hb21) ?_
          refine kd (v_as) ?_
          refine kops_nil ?_
          refine kn_then ?_
          refine kwp_ret ?_
          refine kr_then ?_
          obtain rfl := e_some h
          refine r1 [] ?_
          exact ⟨rfl, rfl⟩
      ·
        replace h := e_f h hc20
        refine kwp_skip ?_
        refine kn_then ?_
        refine kwp_seq ?_
        refine kwp_seq ?_
        refine kwp_region ?_
        refine kd (v_as) ?_
        refine kops_nil ?_
        refine kn_then ?_
        refine kwp_cutO (inv := [(3, .pointer (some p3_6)), (4, .slice q9a v8.length q9c)]) (fun (z : Unit) (y : Unit) => []) (fun (z : Unit) (y : Unit) => (⟨.pointer (some p3_6), 2, [[.int .i64 v4.st, .slice q51a v4.legs.length q51c]]⟩ :: ⟨.slice q51a v4.legs.length q51c, 5, v4.legs.map encLeg⟩ :: ⟨.slice q9a v8.length q9c, 1, q9R.map encRow⟩ :: (rowsC q9R))) (fun _ _ => True) h ?_ ?_
        · intro t27 h25 g26
          refine kwp_block ?_
          refine kwp_loopE (inv := [(3, .pointer (some p3_6)), (4, .slice q9a v8.length q9c)]) (fun (z : Int) (y : Unit) => [(5, .int .i64 z)]) (fun (z : Int) (y : Unit) => (⟨.pointer (some p3_6), 2, [[.int .i64 v4.st, .slice q51a v4.legs.length q51c]]⟩ :: ⟨.slice q51a v4.legs.length q51c, 5, v4.legs.map encLeg⟩ :: ⟨.slice q9a v8.length q9c, 1, q9R.map encRow⟩ :: (rowsC q9R))) (fun _ _ => True) h25 ⟨(), hd_mk trivial⟩ ?_
          intro k28 y32 b29 _ h30
          unfold p_laws_FnLinks_L0 at h30
          refine kwp_seq ?_
          refine kwp_seq ?_
          refine kwp_region ?_
          refine kd (v_mv) ?_
          refine kd (v_mv) ?_
          refine kd (v_len Tryd.runUnderlying51) ?_
          refine kd (v_cmp) ?_
          refine kops_nil ?_
          refine kn_then ?_
          refine kwp_cond rfl (fun hc33 => ?_) (fun hc33 => ?_)
          ·
            replace h30 := e_t h30 hc33
            refine kwp_skip ?_
            refine kn_then ?_
            refine kwp_seq ?_
            refine kwp_block ?_
            refine kwp_seq ?_
            refine kwp_region ?_
            refine kd (v_as) ?_
            refine kops_nil ?_
            refine kn_then ?_
            refine kwp_seq ?_
            refine kwp_seq ?_
            refine kwp_region ?_
            refine kd (v_as) ?_
            refine kops_nil ?_
            refine kn_then ?_
            refine kwp_cutE (inv := [(3, .pointer (some p3_6)), (4, .slice q9a v8.length q9c), (5, .int .i64 k28)]) (fun (z : Int) (y : Unit) => [(6, .int .i64 z)]) (fun (z : Int) (y : Unit) => (⟨.pointer (some p3_6), 2, [[.int .i64 v4.st, .slice q51a v4.legs.length q51c]]⟩ :: ⟨.slice q51a v4.legs.length q51c, 5, v4.legs.map encLeg⟩ :: ⟨.slice q9a v8.length q9c, 1, q9R.map encRow⟩ :: (rowsC q9R))) (fun _ _ => True) h30 ?_ ?_
            · intro t37 h35
              refine kwp_block ?_
              refine kwp_loopE (inv := [(3, .pointer (some p3_6)), (4, .slice q9a v8.length q9c), (5, .int .i64 k28)]) (fun (z : Int × Int) (y : Unit) => [(6, .int .i64 z.1), (7, .int .i64 z.2)]) (fun (z : Int × Int) (y : Unit) => (⟨.pointer (some p3_6), 2, [[.int .i64 v4.st, .slice q51a v4.legs.length q51c]]⟩ :: ⟨.slice q51a v4.legs.length q51c, 5, v4.legs.map encLeg⟩ :: ⟨.slice q9a v8.length q9c, 1, q9R.map encRow⟩ :: (rowsC q9R))) (fun _ _ => True) h35 ⟨(), hd_mk trivial⟩ ?_
              intro z42 y43 b40 _ h41
              obtain ⟨n38, j39⟩ := z42
              unfold p_laws_FnLinks_L1 at h41
              refine kwp_seq ?_
              refine kwp_seq ?_
              refine kwp_region ?_
              refine kd (v_mv) ?_
              refine kd (v_fb fa_25_1) ?_
              refine kd (v_ldb Tryd.isAgg23) ?_
              refine kd (v_len Tryd.runUnderlying23) ?_
              refine kd (v_cmp) ?_
              refine kops_nil ?_
              refine kn_then ?_
              refine kwp_cond rfl (fun hc44 => ?_) (fun hc44 => ?_)
              ·
                replace h41 := e_t h41 hc44
                refine kwp_skip ?_
                refine kn_then ?_
                refine kwp_seq ?_
                refine kwp_block ?_
                refine kwp_seq ?_
                refine kwp_region ?_
                refine kd (v_fb fa_25_1) ?_
                refine kd (v_ldb Tryd.isAgg23) ?_
                refine kd (v_mv) ?_
                obtain ⟨j45, ej45, nj45, h41⟩ := e_idx h41
                refine kd (v_ia ej45 nj45 Tryd.runUnderlying23 Tryd.sizeOf48) ?_
                refine kd (v_lda (e := [_, _, _, _, _]) nj45 Tryd.isAgg48 Tryd.sizeOf48) ?_
                refine kk (n_alloc (e := [.int .i64 0, .int .i64 0, .int .i64 0, .int .i64 0, .int .i64 0]) 5 Tryd.zeroValue48 (fun p8_46 => ?_))
                refine kk (s_B (e' := [.int .i64 ((gx v4.legs j45).f), .int .i64 ((gx v4.legs j45).t), .int .i64 ((gx v4.legs j45).e), .int .i64 ((gx v4.legs j45).n), .int .i64 ((gx v4.legs j45).u)]) Tryd.sizeOf48 ?_)
                refine kops_nil ?_
                refine kn_then ?_
                refine kwp_seq ?_
                refine kwp_region ?_
                refine kd (v_fb fa_48_0) ?_
                refine kd (v_ldb Tryd.isAgg3) ?_
                refine kd (v_cmp) ?_
                refine kd (v_mv) ?_
                refine kops_split 53 rfl (fun hb47 => ?_) (fun hb47 => ?_)
                ·
                  replace h41 := e_t h41 hb47
                  refine kgd hb47 (v_fb fa_48_1) ?_
                  refine kgd hb47 (v_ldb Tryd.isAgg3) ?_
                  refine kgd hb47 (v_mv) ?_
                  refine kgd hb47 (v_add) ?_
                  refine kgd hb47 (v_cmp) ?_
                  refine kd (v_pt hb47) ?_
                  refine kd (v_mv) ?_
                  refine kops_split 60 rfl (fun hb48 => ?_) (fun hb48 => ?_)
                  ·
                    replace h41 := e_t h41 hb48
                    refine kskip hb48 ?_
                    refine kskip hb48 ?_
                    refine kskip hb48 ?_
                    refine kskip hb48 ?_
                    refine kops_skipU ?_
                    refine kops_skipU ?_
                    refine kops_skipU ?_
                    refine kops_skipU ?_
                    refine kops_skipU ?_
                    refine kskip hb48 ?_
                    refine kd (v_pt hb48) ?_
                    refine kops_nil ?_
                    refine kn_then ?_
                    refine kwp_cond_t rfl rfl ?_
                    refine kwp_region ?_
                    refine kd (v_mv) ?_
                    refine kd (v_add) ?_
                    refine kd (v_as) ?_
                    refine kops_nil ?_
                    refine kn_block ?_
                    refine kn_then ?_
                    refine kwp_region ?_
                    refine kd (v_mv) ?_
                    refine kd (v_add) ?_
                    refine kd (v_as) ?_
                    refine kops_nil ?_
                    refine kn_then ?_
                    obtain rfl := e_some h41
                    exact ⟨_, (), rfl, hd_mk trivial⟩
                  ·
                    replace h41 := e_f h41 hb48
                    refine kgd hb48 (v_fb fa_48_1) ?_
                    refine kgd hb48 (v_ldb Tryd.isAgg3) ?_
                    refine kgd hb48 (v_cmp) ?_
                    refine kgd hb48 (v_mv) ?_
                    refine kops_split 64 rfl (fun hb49 => ?_) (fun hb49 => ?_)
                    ·
                      replace h41 := e_t h41 hb49
                      refine kgd hb49 (v_fb fa_48_0) ?_
                      refine kgd hb49 (v_ldb Tryd.isAgg3) ?_
                      refine kgd hb49 (v_mv) ?_
                      refine kgd hb49 (v_add) ?_
                      refine kgd hb49 (v_cmp) ?_
                      refine kgd hb48 (v_pt hb49) ?_
                      refine kd (v_pf hb48) ?_
                      refine kops_nil ?_
                      refine kn_then ?_
                      refine kwp_cond rfl (fun hc50 => ?_) (fun hc50 => ?_)
                      ·
                        replace h41 := e_t h41 hc50
                        refine kwp_region ?_
                        refine kd (v_mv) ?_
                        refine kd (v_add) ?_
                        refine kd (v_as) ?_
                        refine kops_nil ?_
                        refine kn_block ?_
                        refine kn_then ?_
                        refine kwp_region ?_
                        refine kd (v_mv) ?_
                        refine kd (v_add) ?_
                        refine kd (v_as) ?_
                        refine kops_nil ?_
                        refine kn_then ?_
                        obtain rfl := e_some h41
                        exact ⟨_, (), rfl, hd_mk trivial⟩
                      ·
                        replace h41 := e_f h41 hc50
                        refine kwp_skip ?_
                        refine kn_block ?_
                        refine kn_then ?_
                        refine kwp_region ?_
                        refine kd (v_mv) ?_
                        refine kd (v_add) ?_
                        refine kd (v_as) ?_
                        refine kops_nil ?_
                        refine kn_then ?_
                        obtain rfl := e_some h41
                        exact ⟨_, (), rfl, hd_mk trivial⟩
                    ·
                      replace h41 := e_f h41 hb49
                      refine kskip hb49 ?_
                      refine kskip hb49 ?_
                      refine kskip hb49 ?_
                      refine kskip hb49 ?_
                      refine kskip hb49 ?_
                      refine kgd hb48 (v_pf hb49) ?_
                      refine kd (v_pf hb48) ?_
                      refine kops_nil ?_
                      refine kn_then ?_
                      refine kwp_cond_f rfl rfl ?_
                      refine kwp_skip ?_
                      refine kn_block ?_
                      refine kn_then ?_
                      refine kwp_region ?_
                      refine kd (v_mv) ?_
                      refine kd (v_add) ?_
                      refine kd (v_as) ?_
                      refine kops_nil ?_
                      refine kn_then ?_
                      obtain rfl := e_some h41
                      exact ⟨_, (), rfl, hd_mk trivial⟩
                ·
                  replace h41 := e_f h41 hb47
                  refine kskip hb47 ?_
                  refine kskip hb47 ?_
                  refine kskip hb47 ?_
                  refine kskip hb47 ?_
                  refine kskip hb47 ?_
                  refine kd (v_pf hb47) ?_
                  refine kd (v_mv) ?_
                  refine kgd rfl (v_fb fa_48_1) ?_
                  refine kgd rfl (v_ldb Tryd.isAgg3) ?_
                  refine kgd rfl (v_cmp) ?_
                  refine kgd rfl (v_mv) ?_
                  refine kops_split 64 rfl (fun hb51 => ?_) (fun hb51 => ?_)
                  ·
                    replace h41 := e_t h41 hb51
                    refine kgd hb51 (v_fb fa_48_0) ?_
                    refine kgd hb51 (v_ldb Tryd.isAgg3) ?_
                    refine kgd hb51 (v_mv) ?_
                    refine kgd hb51 (v_add) ?_
                    refine kgd hb51 (v_cmp) ?_
                    refine kgd rfl (v_pt hb51) ?_
                    refine kd (v_pf rfl) ?_
                    refine kops_nil ?_
                    refine kn_then ?_
                    refine kwp_cond rfl (fun hc52 => ?_) (fun hc52 => ?_)
                    ·
                      replace h41 := e_t h41 hc52
                      refine kwp_region ?_
                      refine kd (v_mv) ?_
                      refine kd (v_add) ?_
                      refine kd (v_as) ?_
                      refine kops_nil ?_
                      refine kn_block ?_
                      refine kn_then ?_
                      refine kwp_region ?_
                      refine kd (v_mv) ?_
                      refine kd (v_add) ?_
                      refine kd (v_as) ?_
                      refine kops_nil ?_
                      refine kn_then ?_
                      obtain rfl := e_some h41
                      exact ⟨_, (), rfl, hd_mk trivial⟩
                    ·
                      replace h41 := e_f h41 hc52
                      refine kwp_skip ?_
                      refine kn_block ?_
                      refine kn_then ?_
                      refine kwp_region ?_
                      refine kd (v_mv) ?_
                      refine kd (v_add) ?_
                      refine kd (v_as) ?_
                      refine kops_nil ?_
                      refine kn_then ?_
                      obtain rfl := e_some h41
                      exact ⟨_, (), rfl, hd_mk trivial⟩
                  ·
                    replace h41 := e_f h41 hb51
                    refine kskip hb51 ?_
                    refine kskip hb51 ?_
                    refine kskip hb51 ?_
                    refine kskip hb51 ?_
                    refine kskip hb51 ?_
                    refine kgd rfl (v_pf hb51) ?_
                    refine kd (v_pf rfl) ?_
                    refine kops_nil ?_
                    refine kn_then ?_
                    refine kwp_cond_f rfl rfl ?_
                    refine kwp_skip ?_
                    refine kn_block ?_
                    refine kn_then ?_
                    refine kwp_region ?_
                    refine kd (v_mv) ?_
                    refine kd (v_add) ?_
                    refine kd (v_as) ?_
                    refine kops_nil ?_
                    refine kn_then ?_
                    obtain rfl := e_some h41
                    exact ⟨_, (), rfl, hd_mk trivial⟩
              ·
                replace h41 := e_f h41 hc44
                refine kwp_exit ?_
                refine ke_then ?_
                obtain rfl := e_some h41
                refine k_out ?_ rfl
                rintro rfl
                refine ke_block ?_
                exact ⟨(), hd_mk trivial⟩
            · intro n34 y54 _ h55
              refine kn_then ?_
              refine kwp_seq ?_
              refine kwp_region ?_
              refine kd (v_as) ?_
              refine kops_nil ?_
              refine kn_then ?_
              refine kwp_seq ?_
              refine kwp_seq ?_
              refine kwp_region ?_
              refine kd (v_as) ?_
              refine kops_nil ?_
              refine kn_then ?_
              refine kwp_cutE (inv := [(3, .pointer (some p3_6)), (4, .slice q9a v8.length q9c), (5, .int .i64 k28), (6, .int .i64 n34)]) (fun (z : Int) (y : Unit) => [(9, .int .i64 z)]) (fun (z : Int) (y : Unit) => (⟨.pointer (some p3_6), 2, [[.int .i64 v4.st, .slice q51a v4.legs.length q51c]]⟩ :: ⟨.slice q51a v4.legs.length q51c, 5, v4.legs.map encLeg⟩ :: ⟨.slice q9a v8.length q9c, 1, q9R.map encRow⟩ :: (rowsC q9R))) (fun _ _ => True) h55 ?_ ?_
              · intro t59 h57
                refine kwp_block ?_
                refine kwp_loopE (inv := [(3, .pointer (some p3_6)), (4, .slice q9a v8.length q9c), (5, .int .i64 k28), (6, .int .i64 n34)]) (fun (z : Int × Int) (y : Unit) => [(9, .int .i64 z.1), (10, .int .i64 z.2)]) (fun (z : Int × Int) (y : Unit) => (⟨.pointer (some p3_6), 2, [[.int .i64 v4.st, .slice q51a v4.legs.length q51c]]⟩ :: ⟨.slice q51a v4.legs.length q51c, 5, v4.legs.map encLeg⟩ :: ⟨.slice q9a v8.length q9c, 1, q9R.map encRow⟩ :: (rowsC q9R))) (fun _ _ => True) h57 ⟨(), hd_mk trivial⟩ ?_
                intro z64 y65 b62 _ h63
                obtain ⟨sum60, j61⟩ := z64
                unfold p_laws_FnLinks_L2 at h63
                refine kwp_seq ?_
                refine kwp_seq ?_
                refine kwp_region ?_
                refine kd (v_mv) ?_
                refine kd (v_mv) ?_
                refine kd (v_len Tryd.runUnderlying51) ?_
                refine kd (v_cmp) ?_
                refine kops_nil ?_
                refine kn_then ?_
                refine kwp_cond rfl (fun hc66 => ?_) (fun hc66 => ?_)
                ·
                  replace h63 := e_t h63 hc66
                  refine kwp_skip ?_
                  refine kn_then ?_
                  refine kwp_seq ?_
                  refine kwp_block ?_
                  refine kwp_region ?_
                  refine kd (v_mv) ?_
                  refine kd (v_mv) ?_
                  refine kd (v_mv) ?_
                  obtain ⟨j67, ej67, nj67, h63⟩ := e_idx h63
                  refine kd (v_ia ej67 nj67 Tryd.runUnderlying51 Tryd.sizeOf26) ?_
                  refine kd (v_ldr nj67 hq9R Tryd.isAgg26) ?_
                  refine kd (v_mv) ?_
                  obtain ⟨j68, ej68, nj68, h63⟩ := e_idx h63
                  refine kd (v_ia ej68 nj68 Tryd.runUnderlying26 Tryd.sizeOf3 (hm := by repeat (first | exact mr hq9R (by first | exact nj67 | (simpa using nj67) | omega | (simp only [List.length_set]; omega)) | exact mr0 hq9R (by first | exact nj67 | (simpa using nj67) | omega | (simp only [List.length_set]; omega)) | apply mt | apply mas | apply ms))) ?_
                  refine kd (v_ldf nj68 Tryd.isAgg3 (hm := by repeat (first | exact mr hq9R (by first | exact nj67 | (simpa using nj67) | omega | (simp only [List.length_set]; omega)) | exact mr0 hq9R (by first | exact nj67 | (simpa using nj67) | omega | (simp only [List.length_set]; omega)) | apply mt | apply mas | apply ms))) ?_
                  refine kd (v_add) ?_
                  refine kd (v_as) ?_
                  refine kops_nil ?_
                  refine kn_block ?_
                  refine kn_then ?_
                  refine kwp_region ?_
                  refine kd (v_mv) ?_
                  refine kd (v_add) ?_
                  refine kd (v_as) ?_
                  refine kops_nil ?_
                  refine kn_then ?_
                  obtain rfl := e_some h63
                  exact ⟨_, (), rfl, hd_mk trivial⟩
                ·
                  replace h63 := e_f h63 hc66
                  refine kwp_exit ?_
                  refine ke_then ?_
                  obtain rfl := e_some h63
                  refine k_out ?_ rfl
                  rintro rfl
                  refine ke_block ?_
                  exact ⟨(), hd_mk trivial⟩
              · intro sum56 y70 _ h71
                refine kn_then ?_
                refine kwp_seq ?_
                refine kwp_region ?_
                refine kd (v_mv) ?_
                refine kd (v_mv) ?_
                refine kd (v_cmp) ?_
                refine kops_nil ?_
                refine kn_then ?_
                refine kwp_cond rfl (fun hc72 => ?_) (fun hc72 => ?_)
                ·
                  replace h71 := e_t h71 hc72
                  refine kwp_seq ?_
                  refine kwp_region ?_
                  refine kd (v_as) ?_
                  refine kops_nil ?_
                  refine kn_then ?_
                  refine kwp_ret ?_
                  refine kr_block ?_
                  refine kr_then ?_
                  refine kr_then ?_
                  obtain rfl := e_some h71
                  refine k_out ?_ rfl
                  rintro rfl
                  refine kr_block ?_
                  refine kr_then ?_
                  refine kr_then ?_
                  obtain rfl := e_some g26
                  refine r1 [] ?_
                  exact ⟨rfl, rfl⟩
                ·
                  replace h71 := e_f h71 hc72
                  refine kwp_skip ?_
                  refine kn_block ?_
                  refine kn_then ?_
                  refine kwp_region ?_
                  refine kd (v_mv) ?_
                  refine kd (v_add) ?_
                  refine kd (v_as) ?_
                  refine kops_nil ?_
                  refine kn_then ?_
                  obtain rfl := e_some h71
                  exact ⟨_, (), rfl, hd_mk trivial⟩
          ·
            replace h30 := e_f h30 hc33
            refine kwp_exit ?_
            refine ke_then ?_
            obtain rfl := e_some h30
            refine k_out ?_ rfl
            rintro rfl
            refine ke_block ?_
            exact ⟨_, (), rfl, hd_mk trivial⟩
        · intro z73 y74 _ h75
          refine kn_then ?_
          refine kwp_seq ?_
          refine kwp_region ?_
          refine kd (v_mv) ?_
          obtain ⟨v77, hv76, h75⟩ := e_bind h75
          refine kk (n_call Tryd.call40 (w_impl_MatrixTurn q9a v8.length q9c q9R hq9R hv76) ?_)
          rintro _ _ ⟨q78a, q78c, q78R, rfl, hq78R, rfl⟩
          refine kd (v_mv) ?_
          obtain ⟨v80, hv79, h75⟩ := e_bind h75
          refine kk (n_call Tryd.call37 (w_laws_sameLists q78a v77.length q78c q78R q9a v8.length q9c q9R hq78R hq9R hv79) ?_)
          rintro _ _ ⟨rfl, rfl⟩
          refine kd (v_mv) ?_
          refine kops_split 96 rfl (fun hb82 => ?_) (fun hb82 => ?_)
          ·
            replace h75 := e_t h75 hb82
            refine kgd hb82 (v_mv) ?_
            refine kgd hb82 (v_len Tryd.runUnderlying51) ?_
            refine kgd hb82 (v_fb fa_25_0) ?_
            refine kgd hb82 (v_ldb Tryd.isAgg3) ?_
            refine kgd hb82 (v_sub) ?_
            refine kgd hb82 (v_cmp) ?_
            refine kd (v_pt hb82) ?_
            refine kd (v_as) ?_
            refine kops_nil ?_
            refine kn_then ?_
            refine kwp_ret ?_
            obtain rfl := e_some h75
            refine r1 [] ?_
            exact ⟨rfl, rfl⟩
          ·
            replace h75 := e_f h75 hb82
            refine kskip hb82 ?_
            refine kskip hb82 ?_
            refine kskip hb82 ?_
            refine kskip hb82 ?_
            refine kskip hb82 ?_
            refine kskip hb82 ?_
            refine kd (v_pf hb82) ?_
            refine kd (v_as) ?_
            refine kops_nil ?_
            refine kn_then ?_
            refine kwp_ret ?_
            obtain rfl := e_some h75
            refine r1 [] ?_
            exact ⟨rfl, rfl⟩

end Go.Proofs.YtnibfmofkamjoaaDoor
