/- What the plain programs return, the functions of the program return; no condition. -/
import Derived.Test.YtkedammjdldloaaDoorQdWidenBest
import Derived.Test.YtkedammjdldloaaDoorFa
import Derived.Test.YtkedammjdldloaaDoorVbm
import Derived.Test.YtkedammjdldloaaDoorVbt
import Derived.Test.YtkedammjdldloaaDoorVbb
namespace Go.Proofs.YtkedammjdldloaaDoor
open Go
set_option linter.unusedVariables false
set_option linter.unusedSimpArgs false

set_option maxRecDepth 20000 in
theorem w_spec_DrawWidenBest (code0a : Option Addr) (code0n : Nat) (code0c : Nat) {code0 : List UInt8} {r : Mine × Int × Int} (h : p_spec_DrawWidenBest code0 = some r) :
    Triple Tryd.prog 11 [.slice code0a code0n code0c] [⟨.slice code0a code0n code0c, 1, code0.map encB⟩] [] (fun v ch => ∃ (w01a : Option Addr) (w01c : Nat), v = .tuple #[.agg #[.int .i64 r.1.p, .slice w01a r.1.aw.length w01c], .int .i64 r.2.1, .int .i64 r.2.2] ∧ ch = [⟨.slice w01a r.1.aw.length w01c, 3, r.1.aw.map encAirway⟩]) := by
  refine triple_start 11 Tryd.func11 Tryd.ntmps11 rfl rfl (fun w0 => ?_)
  refine k_len (c := code0c) (fun hl1 => ?_)
  subst hl1
  unfold p_spec_DrawWidenBest at h
  refine kwp_seq ?_
  refine kwp_region ?_
  refine kops_nilchunk 3 (by decide) ?_
  refine kk (n_alloc (e := [.int .i64 0, .slice none 0 0]) 2 Tryd.zeroValue32 (fun p2_2 => ?_))
  refine kd (v_as) ?_
  refine kd (v_as) ?_
  refine kops_nil ?_
  refine kn_then ?_
  refine kwp_seq ?_
  refine kwp_region ?_
  refine kd (v_mv) ?_
  obtain ⟨v4, hv3, h⟩ := e_bind h
  refine kk (n_call Tryd.call18 (w_spec_l20Open code0a code0.length code0c hv3) ?_)
  rintro _ _ ⟨q5p, q50a, q50c, rfl, hvwq5, rfl⟩
  obtain ⟨⟨v7, v8, v9, v10⟩, hv6, h⟩ := e_bind h
  refine kk (n_call Tryd.call24 (w_spec_l20Blown q5p q50a v4.b.length q50c hv6) ?_ (hv := (Views.cons (by repeat (first | exact mh | apply mt | apply mas | apply ms)) hvwq5 (Views.nil _))))
  rintro _ _ ⟨q111a, q111c, rfl, rfl⟩
  refine kd (v_ex) ?_
  refine kd (v_ex) ?_
  refine kd (v_ex) ?_
  refine kk (s_B (e' := [.int .i64 v7.p, .slice q111a v7.aw.length q111c]) Tryd.sizeOf32 ?_)
  refine kd (v_as) ?_
  refine kd (v_as) ?_
  refine kops_nil ?_
  refine kn_then ?_
  refine kwp_ret ?_
  obtain rfl := e_some h
  refine rc2 Tryd.isAgg32 Tryd.sizeOf32 [⟨.slice q111a v7.aw.length q111c, 3, v7.aw.map encAirway⟩] ?_
  exact ⟨q111a, q111c, rfl, rfl⟩

set_option maxRecDepth 20000 in
set_option maxHeartbeats 2000000 in
theorem w_laws_FnWidenBest (code0a : Option Addr) (code0n : Nat) (code0c : Nat) {code0 : List UInt8} {r : Bool} (h : p_laws_FnWidenBest code0 = some r) :
    Triple Tryd.prog 4 [.slice code0a code0n code0c] [⟨.slice code0a code0n code0c, 1, code0.map encB⟩, tabC] [] (fun v ch => v = .bool r ∧ ch = []) := by
  refine triple_start 93 Tryd.func4 Tryd.ntmps4 rfl rfl (fun w0 => ?_)
  refine k_len (c := code0c) (fun hl1 => ?_)
  subst hl1
  unfold p_laws_FnWidenBest at h
  refine kwp_seq ?_
  refine kwp_region ?_
  refine kd (v_as) ?_
  refine kops_nil ?_
  refine kn_then ?_
  refine kwp_seq ?_
  refine kwp_seq ?_
  refine kwp_region ?_
  refine kd (v_mv) ?_
  refine kd (v_len Tryd.runUnderlying22) ?_
  refine kd (v_cmp) ?_
  refine kops_nil ?_
  refine kn_then ?_
  refine kwp_cond rfl (fun hc2 => ?_) (fun hc2 => ?_)
  ·
    replace h := e_t h hc2
    refine kwp_seq ?_
    refine kwp_region ?_
    refine kd (v_as) ?_
    refine kops_nil ?_
    refine kn_then ?_
    refine kwp_ret ?_
    refine kr_then ?_
    obtain rfl := e_some h
    refine r1 [] ?_
    exact ⟨rfl, rfl⟩
  ·
    replace h := e_f h hc2
    refine kwp_skip ?_
    refine kn_then ?_
    refine kwp_seq ?_
    refine kwp_region ?_
    refine kd (v_mv) ?_
    obtain ⟨⟨v4, v5, v6⟩, hv3, h⟩ := e_bind h
    refine kk (n_call Tryd.call11 (w_spec_DrawWidenBest code0a code0.length code0c hv3) ?_)
    rintro _ _ ⟨q71a, q71c, rfl, rfl⟩
    refine kd (v_mv) ?_
    refine kd (v_ex) ?_
    refine kd (v_ex) ?_
    refine kd (v_ex) ?_
    refine kops_nilchunk 3 (by decide) ?_
    refine kk (n_alloc (e := [.int .i64 0, .slice none 0 0]) 2 Tryd.zeroValue32 (fun p3_10 => ?_))
    refine kk (s_B (e' := [.int .i64 v4.p, .slice q71a v4.aw.length q71c]) Tryd.sizeOf32 ?_)
    refine kd (v_as) ?_
    refine kd (v_as) ?_
    refine kops_nil ?_
    refine kn_then ?_
    refine kwp_seq ?_
    refine kwp_region ?_
    refine kd (v_ldB Tryd.isAgg32 Tryd.sizeOf32) ?_
    refine kd (v_mv) ?_
    refine kd (v_mv) ?_
    obtain ⟨v12, hv11, h⟩ := e_bind h
    refine kk (n_call Tryd.call12 (w_impl_WidenBest q71a v4.aw.length q71c hv11) ?_)
    rintro _ _ ⟨rfl, rfl⟩
    refine kd (v_as) ?_
    refine kops_nil ?_
    refine kn_then ?_
    refine kwp_seq ?_
    refine kwp_seq ?_
    refine kwp_region ?_
    refine kd (v_mv) ?_
    refine kd (v_ldB Tryd.isAgg32 Tryd.sizeOf32) ?_
    refine kd (v_mv) ?_
    refine kd (v_mv) ?_
    obtain ⟨v15, hv14, h⟩ := e_bind h
    refine kk (n_call Tryd.call13 (w_spec_WidenBest q71a v4.aw.length q71c hv14) ?_)
    rintro _ _ ⟨rfl, rfl⟩
    refine kd (v_cmp) ?_
    refine kops_nil ?_
    refine kn_then ?_
    refine kwp_cond rfl (fun hc17 => ?_) (fun hc17 => ?_)
    ·
      replace h := e_t h hc17
      refine kwp_seq ?_
      refine kwp_region ?_
      refine kd (v_as) ?_
      refine kops_nil ?_
      refine kn_then ?_
      refine kwp_ret ?_
      refine kr_then ?_
      obtain rfl := e_some h
      refine r1 [] ?_
      exact ⟨rfl, rfl⟩
    ·
      replace h := e_f h hc17
      refine kwp_skip ?_
      refine kn_then ?_
      refine kwp_seq ?_
      refine kwp_seq ?_
      refine kwp_region ?_
      refine kd (v_mv) ?_
      refine kd (v_cmp) ?_
      refine kops_nil ?_
      refine kn_then ?_
      refine kwp_cond rfl (fun hc18 => ?_) (fun hc18 => ?_)
      ·
        replace h := e_t h hc18
        refine kwp_seq ?_
        refine kwp_region ?_
        refine kd (v_mv) ?_
        refine kd (v_cmp) ?_
        refine kd (v_mv) ?_
        refine kops_split 39 rfl (fun hb19 => ?_) (fun hb19 => ?_)
        ·
          replace h := e_t h hb19
          obtain ⟨v21, hv20, h⟩ := e_bind h
          refine kgk hb19 (n_call Tryd.call10 (w_laws_alive hv20) ?_)
          rintro _ _ ⟨rfl, rfl⟩
          refine kd (v_pt hb19) ?_
          refine kd (v_as) ?_
          refine kops_nil ?_
          refine kn_then ?_
          refine kwp_ret ?_
          refine kr_then ?_
          obtain rfl := e_some h
          refine r1 [] ?_
          exact ⟨rfl, rfl⟩
        ·
          replace h := e_f h hb19
          refine kskip hb19 ?_
          refine kd (v_pf hb19) ?_
          refine kd (v_as) ?_
          refine kops_nil ?_
          refine kn_then ?_
          refine kwp_ret ?_
          refine kr_then ?_
          obtain rfl := e_some h
          refine r1 [] ?_
          exact ⟨rfl, rfl⟩
      ·
        replace h := e_f h hc18
        refine kwp_skip ?_
        refine kn_then ?_
        refine kwp_seq ?_
        refine kwp_region ?_
        refine kd (v_ldB Tryd.isAgg32 Tryd.sizeOf32) ?_
        refine kd (v_mv) ?_
        obtain ⟨⟨v24, v25⟩, hv23, h⟩ := e_bind h
        refine kk (n_call Tryd.call14 (w_impl_Widen q71a v4.aw.length q71c hv23) ?_)
        rintro _ _ ⟨q261a, q261c, rfl, rfl⟩
        refine kd (v_mv) ?_
        refine kd (v_ex) ?_
        refine kd (v_ex) ?_
        refine kops_nilchunk 3 (by decide) ?_
        refine kk (n_alloc (e := [.int .i64 0, .slice none 0 0]) 2 Tryd.zeroValue32 (fun p7_28 => ?_))
        refine kk (s_B (e' := [.int .i64 v24.p, .slice q261a v24.aw.length q261c]) Tryd.sizeOf32 ?_)
        refine kd (v_as) ?_
        refine kops_nil ?_
        refine kn_then ?_
        refine kwp_seq ?_
        refine kwp_region ?_
        refine kd (v_ldB Tryd.isAgg32 Tryd.sizeOf32) ?_
        refine kd (v_mv) ?_
        refine kd (v_mv) ?_
        obtain ⟨⟨v30, v31⟩, hv29, h⟩ := e_bind h
        refine kk (n_call Tryd.call15 (w_impl_AirResist q261a v24.aw.length q261c hv29) ?_)
        rintro _ _ ⟨rfl, rfl⟩
        refine kd (v_mv) ?_
        refine kd (v_ex) ?_
        refine kd (v_ex) ?_
        refine kk (n_alloc (e := [.int .i64 0, .int .i64 0]) 2 Tryd.zeroValue39 (fun p9_34 => ?_))
        refine kk (s_B (e' := [.int .i64 v30.num, .int .i64 v30.den]) Tryd.sizeOf39 ?_)
        refine kd (v_as) ?_
        refine kops_nil ?_
        refine kn_then ?_
        refine kwp_seq ?_
        refine kwp_seq ?_
        refine kwp_region ?_
        refine kd (v_as) ?_
        refine kops_nil ?_
        refine kn_then ?_
        refine kwp_cutO (inv := [(10, .bool v31)]) (fun (z : Unit) (y : Unit) => []) (fun (z : Unit) (y : Unit) => []) (fun _ _ => True) h ?_ ?_
        · intro t37 h35 g36
          refine kwp_block ?_
          refine kwp_loopE (inv := [(3, .pointer (some p3_10)), (4, .int .i64 v5), (5, .int .i64 v6), (6, .int .i64 v12), (9, .pointer (some p9_34)), (10, .bool v31)]) (fun (z : Int) (y : Unit) => [(11, .int .i64 z)]) (fun (z : Int) (y : Unit) => [⟨.pointer (some p3_10), 2, [[.int .i64 v4.p, .slice q71a v4.aw.length q71c]]⟩, ⟨.slice q71a v4.aw.length q71c, 3, v4.aw.map encAirway⟩, ⟨.pointer (some p9_34), 2, [[.int .i64 v30.num, .int .i64 v30.den]]⟩]) (fun _ _ => True) h35 ⟨(), hd_mk trivial⟩ ?_
          intro k38 y42 b39 _ h40
          unfold p_laws_FnWidenBest_L0 at h40
          refine kwp_seq ?_
          refine kwp_seq ?_
          refine kwp_region ?_
          refine kd (v_mv) ?_
          refine kd (v_fb fa_32_1) ?_
          refine kd (v_ldb Tryd.isAgg30) ?_
          refine kd (v_len Tryd.runUnderlying30) ?_
          refine kd (v_cmp) ?_
          refine kops_nil ?_
          refine kn_then ?_
          refine kwp_cond rfl (fun hc43 => ?_) (fun hc43 => ?_)
          ·
            replace h40 := e_t h40 hc43
            refine kwp_skip ?_
            refine kn_then ?_
            refine kwp_seq ?_
            refine kwp_block ?_
            refine kwp_seq ?_
            refine kwp_region ?_
            refine kd (v_ldB Tryd.isAgg32 Tryd.sizeOf32) ?_
            refine kd (v_mv) ?_
            obtain ⟨⟨v45, v46⟩, hv44, h40⟩ := e_bind h40
            refine kk (n_call Tryd.call14 (w_impl_Widen q71a v4.aw.length q71c hv44) ?_)
            rintro _ _ ⟨q471a, q471c, rfl, rfl⟩
            refine kd (v_mv) ?_
            refine kd (v_ex) ?_
            refine kd (v_ex) ?_
            refine kops_nilchunk 3 (by decide) ?_
            refine kk (n_alloc (e := [.int .i64 0, .slice none 0 0]) 2 Tryd.zeroValue32 (fun p12_49 => ?_))
            refine kk (s_B (e' := [.int .i64 v45.p, .slice q471a v45.aw.length q471c]) Tryd.sizeOf32 ?_)
            refine kd (v_as) ?_
            refine kops_nil ?_
            refine kn_then ?_
            refine kwp_seq ?_
            refine kwp_region ?_
            refine kd (v_ldB Tryd.isAgg32 Tryd.sizeOf32) ?_
            refine kd (v_mv) ?_
            refine kd (v_mv) ?_
            obtain ⟨⟨v51, v52⟩, hv50, h40⟩ := e_bind h40
            refine kk (n_call Tryd.call15 (w_impl_AirResist q471a v45.aw.length q471c hv50) ?_)
            rintro _ _ ⟨rfl, rfl⟩
            refine kd (v_mv) ?_
            refine kd (v_ex) ?_
            refine kd (v_ex) ?_
            refine kk (n_alloc (e := [.int .i64 0, .int .i64 0]) 2 Tryd.zeroValue39 (fun p14_55 => ?_))
            refine kk (s_B (e' := [.int .i64 v51.num, .int .i64 v51.den]) Tryd.sizeOf39 ?_)
            refine kd (v_as) ?_
            refine kops_nil ?_
            refine kn_then ?_
            refine kwp_seq ?_
            refine kwp_region ?_
            refine kd (v_mv) ?_
            refine kd (v_mv) ?_
            refine kops_split 76 rfl (fun hb56 => ?_) (fun hb56 => ?_)
            ·
              replace h40 := e_t h40 hb56
              refine kgd hb56 (v_ldB Tryd.isAgg39 Tryd.sizeOf39) ?_
              refine kgd hb56 (v_ldB Tryd.isAgg39 Tryd.sizeOf39) ?_
              obtain ⟨v58, hv57, h40⟩ := e_bind h40
              refine kgk hb56 (n_call Tryd.call16 (w_impl_FracLess hv57) ?_)
              rintro _ _ ⟨rfl, rfl⟩
              refine kgd hb56 (v_mv) ?_
              refine kops_split 80 rfl (fun hb60 => ?_) (fun hb60 => ?_)
              ·
                replace h40 := e_t h40 hb60
                refine kskip hb60 ?_
                refine kskip hb60 ?_
                refine kskip hb60 ?_
                refine kskip hb60 ?_
                refine kops_skipU ?_
                refine kops_skipU ?_
                refine kops_skipU ?_
                refine kops_skipU ?_
                refine kskip hb60 ?_
                refine kgd hb56 (v_pt hb60) ?_
                refine kd (v_pt hb56) ?_
                refine kops_nil ?_
                refine kn_then ?_
                refine kwp_cond_t rfl rfl ?_
                refine kwp_seq ?_
                refine kwp_region ?_
                refine kd (v_as) ?_
                refine kops_nil ?_
                refine kn_then ?_
                refine kwp_ret ?_
                refine kr_block ?_
                refine kr_then ?_
                refine kr_then ?_
                obtain rfl := e_some h40
                refine k_out ?_ rfl
                rintro rfl
                refine kr_block ?_
                refine kr_then ?_
                refine kr_then ?_
                obtain rfl := e_some g36
                refine r1 [] ?_
                exact ⟨rfl, rfl⟩
              ·
                replace h40 := e_f h40 hb60
                refine kgd hb60 (v_mv) ?_
                refine kgd hb60 (v_mv) ?_
                refine kgd hb60 (v_cmp) ?_
                refine kgd hb60 (v_mv) ?_
                refine kops_split 84 rfl (fun hb61 => ?_) (fun hb61 => ?_)
                ·
                  replace h40 := e_t h40 hb61
                  refine kgd hb61 (v_ldB Tryd.isAgg39 Tryd.sizeOf39) ?_
                  refine kgd hb61 (v_ldB Tryd.isAgg39 Tryd.sizeOf39) ?_
                  obtain ⟨v63, hv62, h40⟩ := e_bind h40
                  refine kgk hb61 (n_call Tryd.call16 (w_impl_FracLess hv62) ?_)
                  rintro _ _ ⟨rfl, rfl⟩
                  refine kgd hb61 (v_not) ?_
                  refine kgd hb60 (v_pt hb61) ?_
                  refine kgd hb56 (v_pf hb60) ?_
                  refine kd (v_pt hb56) ?_
                  refine kops_nil ?_
                  refine kn_then ?_
                  refine kwp_cond rfl (fun hc65 => ?_) (fun hc65 => ?_)
                  ·
                    replace h40 := e_t h40 hc65
                    refine kwp_seq ?_
                    refine kwp_region ?_
                    refine kd (v_as) ?_
                    refine kops_nil ?_
                    refine kn_then ?_
                    refine kwp_ret ?_
                    refine kr_block ?_
                    refine kr_then ?_
                    refine kr_then ?_
                    obtain rfl := e_some h40
                    refine k_out ?_ rfl
                    rintro rfl
                    refine kr_block ?_
                    refine kr_then ?_
                    refine kr_then ?_
                    obtain rfl := e_some g36
                    refine r1 [] ?_
                    exact ⟨rfl, rfl⟩
                  ·
                    replace h40 := e_f h40 hc65
                    refine kwp_skip ?_
                    refine kn_block ?_
                    refine kn_then ?_
                    refine kwp_region ?_
                    refine kd (v_mv) ?_
                    refine kd (v_add) ?_
                    refine kd (v_as) ?_
                    refine kops_nil ?_
                    refine kn_then ?_
                    obtain rfl := e_some h40
                    exact ⟨_, (), rfl, hd_mk trivial⟩
                ·
                  replace h40 := e_f h40 hb61
                  refine kskip hb61 ?_
                  refine kskip hb61 ?_
                  refine kskip hb61 ?_
                  refine kskip hb61 ?_
                  refine kgd hb60 (v_pf hb61) ?_
                  refine kgd hb56 (v_pf hb60) ?_
                  refine kd (v_pt hb56) ?_
                  refine kops_nil ?_
                  refine kn_then ?_
                  refine kwp_cond_f rfl rfl ?_
                  refine kwp_skip ?_
                  refine kn_block ?_
                  refine kn_then ?_
                  refine kwp_region ?_
                  refine kd (v_mv) ?_
                  refine kd (v_add) ?_
                  refine kd (v_as) ?_
                  refine kops_nil ?_
                  refine kn_then ?_
                  obtain rfl := e_some h40
                  exact ⟨_, (), rfl, hd_mk trivial⟩
            ·
              replace h40 := e_f h40 hb56
              refine kskip hb56 ?_
              refine kskip hb56 ?_
              refine kskip hb56 ?_
              refine kskip hb56 ?_
              refine kops_skipU ?_
              refine kops_skipU ?_
              refine kops_skipU ?_
              refine kops_skipU ?_
              refine kops_skipU ?_
              refine kops_skipU ?_
              refine kops_skipU ?_
              refine kops_skipU ?_
              refine kops_skipU ?_
              refine kskip hb56 ?_
              refine kd (v_pf hb56) ?_
              refine kops_nil ?_
              refine kn_then ?_
              refine kwp_cond_f rfl rfl ?_
              refine kwp_skip ?_
              refine kn_block ?_
              refine kn_then ?_
              refine kwp_region ?_
              refine kd (v_mv) ?_
              refine kd (v_add) ?_
              refine kd (v_as) ?_
              refine kops_nil ?_
              refine kn_then ?_
              obtain rfl := e_some h40
              exact ⟨_, (), rfl, hd_mk trivial⟩
          ·
            replace h40 := e_f h40 hc43
            refine kwp_exit ?_
            refine ke_then ?_
            obtain rfl := e_some h40
            refine k_out ?_ rfl
            rintro rfl
            refine ke_block ?_
            exact ⟨_, (), rfl, hd_mk trivial⟩
        · intro z66 y67 _ h68
          refine kn_then ?_
          refine kwp_seq ?_
          refine kwp_region ?_
          refine kd (v_mv) ?_
          refine kd (v_as) ?_
          refine kops_nil ?_
          refine kn_then ?_
          refine kwp_ret ?_
          obtain rfl := e_some h68
          refine r1 [] ?_
          exact ⟨rfl, rfl⟩

end Go.Proofs.YtkedammjdldloaaDoor
