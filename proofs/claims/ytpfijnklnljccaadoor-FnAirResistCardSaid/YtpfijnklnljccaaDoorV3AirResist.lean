/- What the plain programs return, the functions of the program return; no condition. -/
import Derived.Test.YtpfijnklnljccaaDoorQ3AirResist
import Derived.Test.YtpfijnklnljccaaDoorFa
import Derived.Test.YtpfijnklnljccaaDoorVbm
import Derived.Test.YtpfijnklnljccaaDoorVbt
import Derived.Test.YtpfijnklnljccaaDoorVbs
import Derived.Test.YtpfijnklnljccaaDoorVbi
namespace Go.Proofs.YtpfijnklnljccaaDoor
open Go
set_option linter.unusedVariables false
set_option linter.unusedSimpArgs false

set_option maxRecDepth 20000 in
theorem w_spec_DrawAirResist (code0a : Option Addr) (code0n : Nat) (code0c : Nat) {code0 : List UInt8} {r : Mine × Int × Int} (h : p_spec_DrawAirResist code0 = some r) :
    Triple Tryd.prog 52 [.slice code0a code0n code0c] [⟨.slice code0a code0n code0c, 1, code0.map encB⟩] [] (fun v ch => ∃ (w01a : Option Addr) (w01c : Nat), v = .tuple #[.agg #[.int .i64 r.1.p, .slice w01a r.1.aw.length w01c], .int .i64 r.2.1, .int .i64 r.2.2] ∧ ch = [⟨.slice w01a r.1.aw.length w01c, 3, r.1.aw.map encAirway⟩]) := by
  refine triple_start 11 Tryd.func52 Tryd.ntmps52 rfl rfl (fun w0 => ?_)
  refine k_len (c := code0c) (fun hl1 => ?_)
  subst hl1
  unfold p_spec_DrawAirResist at h
  refine kwp_seq ?_
  refine kwp_region ?_
  refine kops_nilchunk 3 (by decide) ?_
  refine kk (n_alloc (e := [.int .i64 0, .slice none 0 0]) 2 Tryd.zeroValue32 (fun p2_2 => ?_))
  refine kd (v_as) ?_
  refine kd (v_as) ?_
  refine kops_nil ?_
  refine kn_then ?_
  refine kwp_seq ?_
  refine kwp_region ?_
  refine kd (v_mv) ?_
  obtain ⟨v4, hv3, h⟩ := e_bind h
  refine kk (n_call Tryd.call57 (w_spec_l20Open code0a code0.length code0c hv3) ?_)
  rintro _ _ ⟨q5p, q50a, q50c, rfl, hvwq5, rfl⟩
  obtain ⟨⟨v7, v8, v9, v10⟩, hv6, h⟩ := e_bind h
  refine kk (n_call Tryd.call86 (w_spec_l20Blown q5p q50a v4.b.length q50c hv6) ?_ (hv := (Views.cons (by repeat (first | exact mh | apply mt | apply mas | apply ms)) hvwq5 (Views.nil _))))
  rintro _ _ ⟨q111a, q111c, rfl, rfl⟩
  refine kd (v_ex) ?_
  refine kd (v_ex) ?_
  refine kd (v_ex) ?_
  refine kk (s_B (e' := [.int .i64 v7.p, .slice q111a v7.aw.length q111c]) Tryd.sizeOf32 ?_)
  refine kd (v_as) ?_
  refine kd (v_as) ?_
  refine kops_nil ?_
  refine kn_then ?_
  refine kwp_ret ?_
  obtain rfl := e_some h
  refine rc2 Tryd.isAgg32 Tryd.sizeOf32 [⟨.slice q111a v7.aw.length q111c, 3, v7.aw.map encAirway⟩] ?_
  exact ⟨q111a, q111c, rfl, rfl⟩

set_option maxRecDepth 20000 in
set_option maxHeartbeats 2000000 in
theorem w_laws_FnAirResist (code0a : Option Addr) (code0n : Nat) (code0c : Nat) {code0 : List UInt8} {r : Bool} (h : p_laws_FnAirResist code0 = some r) :
    Triple Tryd.prog 13 [.slice code0a code0n code0c] [⟨.slice code0a code0n code0c, 1, code0.map encB⟩, tabC] [] (fun v ch => v = .bool r ∧ ch = []) := by
  refine triple_start 153 Tryd.func13 Tryd.ntmps13 rfl rfl (fun w0 => ?_)
  refine k_len (c := code0c) (fun hl1 => ?_)
  subst hl1
  unfold p_laws_FnAirResist at h
  refine kwp_seq ?_
  refine kwp_region ?_
  refine kd (v_as) ?_
  refine kops_nil ?_
  refine kn_then ?_
  refine kwp_seq ?_
  refine kwp_seq ?_
  refine kwp_region ?_
  refine kd (v_mv) ?_
  refine kd (v_len Tryd.runUnderlying22) ?_
  refine kd (v_cmp) ?_
  refine kops_nil ?_
  refine kn_then ?_
  refine kwp_cond rfl (fun hc2 => ?_) (fun hc2 => ?_)
  ·
    replace h := e_t h hc2
    refine kwp_seq ?_
    refine kwp_region ?_
    refine kd (v_as) ?_
    refine kops_nil ?_
    refine kn_then ?_
    refine kwp_ret ?_
    refine kr_then ?_
    obtain rfl := e_some h
    refine r1 [] ?_
    exact ⟨rfl, rfl⟩
  ·
    replace h := e_f h hc2
    refine kwp_skip ?_
    refine kn_then ?_
    refine kwp_seq ?_
    refine kwp_region ?_
    refine kd (v_mv) ?_
    obtain ⟨⟨v4, v5, v6⟩, hv3, h⟩ := e_bind h
    refine kk (n_call Tryd.call52 (w_spec_DrawAirResist code0a code0.length code0c hv3) ?_)
    rintro _ _ ⟨q71a, q71c, rfl, rfl⟩
    refine kd (v_mv) ?_
    refine kd (v_ex) ?_
    refine kd (v_ex) ?_
    refine kd (v_ex) ?_
    refine kops_nilchunk 3 (by decide) ?_
    refine kk (n_alloc (e := [.int .i64 0, .slice none 0 0]) 2 Tryd.zeroValue32 (fun p3_10 => ?_))
    refine kk (s_B (e' := [.int .i64 v4.p, .slice q71a v4.aw.length q71c]) Tryd.sizeOf32 ?_)
    refine kd (v_as) ?_
    refine kd (v_as) ?_
    refine kops_nil ?_
    refine kn_then ?_
    refine kwp_seq ?_
    refine kwp_region ?_
    refine kd (v_ldB Tryd.isAgg32 Tryd.sizeOf32) ?_
    refine kd (v_mv) ?_
    refine kd (v_mv) ?_
    obtain ⟨⟨v12, v13⟩, hv11, h⟩ := e_bind h
    refine kk (n_call Tryd.call53 (w_impl_AirResist q71a v4.aw.length q71c hv11) ?_)
    rintro _ _ ⟨rfl, rfl⟩
    refine kd (v_mv) ?_
    refine kd (v_ex) ?_
    refine kd (v_ex) ?_
    refine kk (n_alloc (e := [.int .i64 0, .int .i64 0]) 2 Tryd.zeroValue24 (fun p6_16 => ?_))
    refine kk (s_B (e' := [.int .i64 v12.num, .int .i64 v12.den]) Tryd.sizeOf24 ?_)
    refine kd (v_as) ?_
    refine kops_nil ?_
    refine kn_then ?_
    refine kwp_seq ?_
    refine kwp_region ?_
    refine kd (v_ldB Tryd.isAgg32 Tryd.sizeOf32) ?_
    refine kd (v_mv) ?_
    refine kd (v_mv) ?_
    obtain ⟨⟨v18, v19⟩, hv17, h⟩ := e_bind h
    refine kk (n_call Tryd.call54 (w_spec_AirResist q71a v4.aw.length q71c hv17) ?_)
    rintro _ _ ⟨rfl, rfl⟩
    refine kd (v_mv) ?_
    refine kd (v_ex) ?_
    refine kd (v_ex) ?_
    refine kk (n_alloc (e := [.int .i64 0, .int .i64 0]) 2 Tryd.zeroValue24 (fun p8_22 => ?_))
    refine kk (s_B (e' := [.int .i64 v18.num, .int .i64 v18.den]) Tryd.sizeOf24 ?_)
    refine kd (v_as) ?_
    refine kops_nil ?_
    refine kn_then ?_
    refine kwp_seq ?_
    refine kwp_seq ?_
    refine kwp_cutE (inv := [(3, .pointer (some p3_10)), (4, .int .i64 v5), (5, .int .i64 v6), (6, .pointer (some p6_16)), (7, .bool v13)]) (fun (z : Bool) (y : Unit) => [(52, .bool z)]) (fun (z : Bool) (y : Unit) => [⟨.pointer (some p3_10), 2, [[.int .i64 v4.p, .slice q71a v4.aw.length q71c]]⟩, ⟨.slice q71a v4.aw.length q71c, 3, v4.aw.map encAirway⟩, ⟨.pointer (some p6_16), 2, [[.int .i64 v12.num, .int .i64 v12.den]]⟩]) (fun _ _ => True) h ?_ ?_
    · intro t26 h24
      refine kwp_region ?_
      refine kd (v_ldB Tryd.isAgg24 Tryd.sizeOf24) ?_
      refine kd (v_ldB Tryd.isAgg24 Tryd.sizeOf24) ?_
      refine kd (v_nea eg_24 he_24 hp_24 (eqf_24 _ _ _ _)) ?_
      refine kd (v_mv) ?_
      refine kops_split 48 rfl (fun hb27 => ?_) (fun hb27 => ?_)
      ·
        replace h24 := e_t h24 hb27
        refine kskip hb27 ?_
        refine kskip hb27 ?_
        refine kskip hb27 ?_
        refine kd (v_pt hb27) ?_
        refine kops_nil ?_
        refine kn_then ?_
        obtain rfl := e_some h24
        exact ⟨(), hd_mk trivial⟩
      ·
        replace h24 := e_f h24 hb27
        refine kgd hb27 (v_mv) ?_
        refine kgd hb27 (v_mv) ?_
        refine kgd hb27 (v_neb Tryd.underlying4) ?_
        refine kd (v_pf hb27) ?_
        refine kops_nil ?_
        refine kn_then ?_
        obtain rfl := e_some h24
        exact ⟨(), hd_mk trivial⟩
    · intro x23 y29 _ h30
      refine kn_then ?_
      refine kwp_cond rfl (fun hc31 => ?_) (fun hc31 => ?_)
      ·
        replace h30 := e_t h30 hc31
        refine kwp_seq ?_
        refine kwp_region ?_
        refine kd (v_as) ?_
        refine kops_nil ?_
        refine kn_then ?_
        refine kwp_ret ?_
        refine kr_then ?_
        obtain rfl := e_some h30
        refine r1 [] ?_
        exact ⟨rfl, rfl⟩
      ·
        replace h30 := e_f h30 hc31
        refine kwp_skip ?_
        refine kn_then ?_
        refine kwp_seq ?_
        refine kwp_seq ?_
        refine kwp_region ?_
        refine kd (v_mv) ?_
        refine kd (v_not) ?_
        refine kops_nil ?_
        refine kn_then ?_
        refine kwp_cond rfl (fun hc32 => ?_) (fun hc32 => ?_)
        ·
          replace h30 := e_t h30 hc32
          refine kwp_seq ?_
          refine kwp_region ?_
          refine kd (v_ldB Tryd.isAgg24 Tryd.sizeOf24) ?_
          refine kd (v_bd [] [.int .i64 0, .int .i64 0] Tryd.zeroValue24 Tryd.runUnderlying24 pl_24) ?_
          refine kd (v_eqa eg_24 he_24 hp_24 (eqf_24 _ _ _ _)) ?_
          refine kd (v_mv) ?_
          refine kops_split 58 rfl (fun hb33 => ?_) (fun hb33 => ?_)
          ·
            replace h30 := e_t h30 hb33
            obtain ⟨v35, hv34, h30⟩ := e_bind h30
            refine kgk hb33 (n_call Tryd.call18 (w_laws_alive hv34) ?_)
            rintro _ _ ⟨rfl, rfl⟩
            refine kd (v_pt hb33) ?_
            refine kd (v_as) ?_
            refine kops_nil ?_
            refine kn_then ?_
            refine kwp_ret ?_
            refine kr_then ?_
            obtain rfl := e_some h30
            refine r1 [] ?_
            exact ⟨rfl, rfl⟩
          ·
            replace h30 := e_f h30 hb33
            refine kskip hb33 ?_
            refine kd (v_pf hb33) ?_
            refine kd (v_as) ?_
            refine kops_nil ?_
            refine kn_then ?_
            refine kwp_ret ?_
            refine kr_then ?_
            obtain rfl := e_some h30
            refine r1 [] ?_
            exact ⟨rfl, rfl⟩
        ·
          replace h30 := e_f h30 hc32
          refine kwp_skip ?_
          refine kn_then ?_
          refine kwp_seq ?_
          refine kwp_seq ?_
          refine kwp_region ?_
          refine kd (v_as) ?_
          refine kops_nil ?_
          refine kn_then ?_
          refine kwp_cutO (inv := [(3, .pointer (some p3_10)), (4, .int .i64 v5), (5, .int .i64 v6), (6, .pointer (some p6_16))]) (fun (z : Unit) (y : Unit) => []) (fun (z : Unit) (y : Unit) => [⟨.pointer (some p3_10), 2, [[.int .i64 v4.p, .slice q71a v4.aw.length q71c]]⟩, ⟨.slice q71a v4.aw.length q71c, 3, v4.aw.map encAirway⟩, ⟨.pointer (some p6_16), 2, [[.int .i64 v12.num, .int .i64 v12.den]]⟩]) (fun _ _ => True) h30 ?_ ?_
          · intro t39 h37 g38
            refine kwp_block ?_
            refine kwp_loopE (inv := [(3, .pointer (some p3_10)), (4, .int .i64 v5), (5, .int .i64 v6), (6, .pointer (some p6_16))]) (fun (z : Int) (y : Unit) => [(10, .int .i64 z)]) (fun (z : Int) (y : Unit) => [⟨.pointer (some p3_10), 2, [[.int .i64 v4.p, .slice q71a v4.aw.length q71c]]⟩, ⟨.slice q71a v4.aw.length q71c, 3, v4.aw.map encAirway⟩, ⟨.pointer (some p6_16), 2, [[.int .i64 v12.num, .int .i64 v12.den]]⟩]) (fun _ _ => True) h37 ⟨(), hd_mk trivial⟩ ?_
            intro c40 y44 b41 _ h42
            unfold p_laws_FnAirResist_L0 at h42
            refine kwp_seq ?_
            refine kwp_seq ?_
            refine kwp_region ?_
            refine kd (v_mv) ?_
            refine kd (v_fb fa_32_0) ?_
            refine kd (v_ldb Tryd.isAgg3) ?_
            refine kd (v_cmp) ?_
            refine kops_nil ?_
            refine kn_then ?_
            refine kwp_cond rfl (fun hc45 => ?_) (fun hc45 => ?_)
            ·
              replace h42 := e_t h42 hc45
              refine kwp_skip ?_
              refine kn_then ?_
              refine kwp_seq ?_
              refine kwp_block ?_
              refine kwp_seq ?_
              refine kwp_region ?_
              refine kd (v_ldB Tryd.isAgg32 Tryd.sizeOf32) ?_
              refine kd (v_mv) ?_
              refine kd (v_mv) ?_
              obtain ⟨⟨v47, v48⟩, hv46, h42⟩ := e_bind h42
              refine kk (n_call Tryd.call53 (w_impl_AirResist q71a v4.aw.length q71c hv46) ?_)
              rintro _ _ ⟨rfl, rfl⟩
              refine kd (v_mv) ?_
              refine kd (v_ex) ?_
              refine kd (v_ex) ?_
              refine kk (n_alloc (e := [.int .i64 0, .int .i64 0]) 2 Tryd.zeroValue24 (fun p11_51 => ?_))
              refine kk (s_B (e' := [.int .i64 v47.num, .int .i64 v47.den]) Tryd.sizeOf24 ?_)
              refine kd (v_as) ?_
              refine kops_nil ?_
              refine kn_then ?_
              refine kwp_seq ?_
              refine kwp_region ?_
              refine kd (v_ldB Tryd.isAgg32 Tryd.sizeOf32) ?_
              refine kd (v_mv) ?_
              refine kd (v_mv) ?_
              obtain ⟨⟨v53, v54⟩, hv52, h42⟩ := e_bind h42
              refine kk (n_call Tryd.call53 (w_impl_AirResist q71a v4.aw.length q71c hv52) ?_)
              rintro _ _ ⟨rfl, rfl⟩
              refine kd (v_mv) ?_
              refine kd (v_ex) ?_
              refine kd (v_ex) ?_
              refine kk (n_alloc (e := [.int .i64 0, .int .i64 0]) 2 Tryd.zeroValue24 (fun p13_57 => ?_))
              refine kk (s_B (e' := [.int .i64 v53.num, .int .i64 v53.den]) Tryd.sizeOf24 ?_)
              refine kd (v_as) ?_
              refine kops_nil ?_
              refine kn_then ?_
              refine kwp_seq ?_
              refine kwp_region ?_
              refine kd (v_fb fa_24_0) ?_
              refine kd (v_ldb Tryd.isAgg3) ?_
              refine kd (v_fb fa_24_0) ?_
              refine kd (v_ldb Tryd.isAgg3) ?_
              refine kd (v_add) ?_
              refine kd (v_fb fa_24_0) ?_
              refine kd (v_ldb Tryd.isAgg3) ?_
              refine kd (v_cmp) ?_
              refine kd (v_mv) ?_
              refine kops_split 89 rfl (fun hb58 => ?_) (fun hb58 => ?_)
              ·
                replace h42 := e_t h42 hb58
                refine kskip hb58 ?_
                refine kskip hb58 ?_
                refine kskip hb58 ?_
                refine kskip hb58 ?_
                refine kskip hb58 ?_
                refine kd (v_pt hb58) ?_
                refine kops_nil ?_
                refine kn_then ?_
                refine kwp_cond_t rfl rfl ?_
                refine kwp_seq ?_
                refine kwp_region ?_
                refine kd (v_as) ?_
                refine kops_nil ?_
                refine kn_then ?_
                refine kwp_ret ?_
                refine kr_block ?_
                refine kr_then ?_
                refine kr_then ?_
                obtain rfl := e_some h42
                refine k_out ?_ rfl
                rintro rfl
                refine kr_block ?_
                refine kr_then ?_
                refine kr_then ?_
                obtain rfl := e_some g38
                refine r1 [] ?_
                exact ⟨rfl, rfl⟩
              ·
                replace h42 := e_f h42 hb58
                refine kgd hb58 (v_fb fa_24_1) ?_
                refine kgd hb58 (v_ldb Tryd.isAgg3) ?_
                refine kgd hb58 (v_fb fa_24_1) ?_
                refine kgd hb58 (v_ldb Tryd.isAgg3) ?_
                refine kgd hb58 (v_cmp) ?_
                refine kd (v_pf hb58) ?_
                refine kops_nil ?_
                refine kn_then ?_
                refine kwp_cond rfl (fun hc59 => ?_) (fun hc59 => ?_)
                ·
                  replace h42 := e_t h42 hc59
                  refine kwp_seq ?_
                  refine kwp_region ?_
                  refine kd (v_as) ?_
                  refine kops_nil ?_
                  refine kn_then ?_
                  refine kwp_ret ?_
                  refine kr_block ?_
                  refine kr_then ?_
                  refine kr_then ?_
                  obtain rfl := e_some h42
                  refine k_out ?_ rfl
                  rintro rfl
                  refine kr_block ?_
                  refine kr_then ?_
                  refine kr_then ?_
                  obtain rfl := e_some g38
                  refine r1 [] ?_
                  exact ⟨rfl, rfl⟩
                ·
                  replace h42 := e_f h42 hc59
                  refine kwp_skip ?_
                  refine kn_block ?_
                  refine kn_then ?_
                  refine kwp_region ?_
                  refine kd (v_mv) ?_
                  refine kd (v_add) ?_
                  refine kd (v_as) ?_
                  refine kops_nil ?_
                  refine kn_then ?_
                  obtain rfl := e_some h42
                  exact ⟨_, (), rfl, hd_mk trivial⟩
            ·
              replace h42 := e_f h42 hc45
              refine kwp_exit ?_
              refine ke_then ?_
              obtain rfl := e_some h42
              refine k_out ?_ rfl
              rintro rfl
              refine ke_block ?_
              exact ⟨_, (), rfl, hd_mk trivial⟩
          · intro z60 y61 _ h62
            refine kn_then ?_
            refine kwp_seq ?_
            refine kwp_seq ?_
            refine kwp_region ?_
            refine kd (v_as) ?_
            refine kops_nil ?_
            refine kn_then ?_
            refine kwp_cutO (inv := [(3, .pointer (some p3_10)), (4, .int .i64 v5), (5, .int .i64 v6), (6, .pointer (some p6_16))]) (fun (z : Unit) (y : Unit) => []) (fun (z : Unit) (y : Unit) => [⟨.pointer (some p3_10), 2, [[.int .i64 v4.p, .slice q71a v4.aw.length q71c]]⟩, ⟨.slice q71a v4.aw.length q71c, 3, v4.aw.map encAirway⟩, ⟨.pointer (some p6_16), 2, [[.int .i64 v12.num, .int .i64 v12.den]]⟩]) (fun _ _ => True) h62 ?_ ?_
            · intro t65 h63 g64
              refine kwp_block ?_
              refine kwp_loopE (inv := [(3, .pointer (some p3_10)), (4, .int .i64 v5), (5, .int .i64 v6), (6, .pointer (some p6_16))]) (fun (z : Int) (y : Unit) => [(15, .int .i64 z)]) (fun (z : Int) (y : Unit) => [⟨.pointer (some p3_10), 2, [[.int .i64 v4.p, .slice q71a v4.aw.length q71c]]⟩, ⟨.slice q71a v4.aw.length q71c, 3, v4.aw.map encAirway⟩, ⟨.pointer (some p6_16), 2, [[.int .i64 v12.num, .int .i64 v12.den]]⟩]) (fun _ _ => True) h63 ⟨(), hd_mk trivial⟩ ?_
              intro k66 y70 b67 _ h68
              unfold p_laws_FnAirResist_L1 at h68
              refine kwp_seq ?_
              refine kwp_seq ?_
              refine kwp_region ?_
              refine kd (v_mv) ?_
              refine kd (v_fb fa_32_1) ?_
              refine kd (v_ldb Tryd.isAgg30) ?_
              refine kd (v_len Tryd.runUnderlying30) ?_
              refine kd (v_cmp) ?_
              refine kops_nil ?_
              refine kn_then ?_
              refine kwp_cond rfl (fun hc71 => ?_) (fun hc71 => ?_)
              ·
                replace h68 := e_t h68 hc71
                refine kwp_skip ?_
                refine kn_then ?_
                refine kwp_seq ?_
                refine kwp_block ?_
                refine kwp_seq ?_
                refine kwp_region ?_
                refine kd (v_ldB Tryd.isAgg32 Tryd.sizeOf32) ?_
                refine kd (v_mv) ?_
                obtain ⟨⟨v73, v74⟩, hv72, h68⟩ := e_bind h68
                refine kk (n_call Tryd.call23 (w_impl_Widen q71a v4.aw.length q71c hv72) ?_)
                rintro _ _ ⟨q751a, q751c, rfl, rfl⟩
                refine kd (v_mv) ?_
                refine kd (v_ex) ?_
                refine kd (v_ex) ?_
                refine kops_nilchunk 3 (by decide) ?_
                refine kk (n_alloc (e := [.int .i64 0, .slice none 0 0]) 2 Tryd.zeroValue32 (fun p16_77 => ?_))
                refine kk (s_B (e' := [.int .i64 v73.p, .slice q751a v73.aw.length q751c]) Tryd.sizeOf32 ?_)
                refine kd (v_as) ?_
                refine kops_nil ?_
                refine kn_then ?_
                refine kwp_seq ?_
                refine kwp_region ?_
                refine kd (v_ldB Tryd.isAgg32 Tryd.sizeOf32) ?_
                refine kd (v_mv) ?_
                refine kd (v_mv) ?_
                obtain ⟨⟨v79, v80⟩, hv78, h68⟩ := e_bind h68
                refine kk (n_call Tryd.call53 (w_impl_AirResist q751a v73.aw.length q751c hv78) ?_)
                rintro _ _ ⟨rfl, rfl⟩
                refine kd (v_mv) ?_
                refine kd (v_ex) ?_
                refine kd (v_ex) ?_
                refine kk (n_alloc (e := [.int .i64 0, .int .i64 0]) 2 Tryd.zeroValue24 (fun p18_83 => ?_))
                refine kk (s_B (e' := [.int .i64 v79.num, .int .i64 v79.den]) Tryd.sizeOf24 ?_)
                refine kd (v_as) ?_
                refine kops_nil ?_
                refine kn_then ?_
                refine kwp_seq ?_
                refine kwp_region ?_
                refine kd (v_mv) ?_
                refine kd (v_mv) ?_
                refine kops_split 117 rfl (fun hb84 => ?_) (fun hb84 => ?_)
                ·
                  replace h68 := e_t h68 hb84
                  refine kgd hb84 (v_ldB Tryd.isAgg24 Tryd.sizeOf24) ?_
                  refine kgd hb84 (v_ldB Tryd.isAgg24 Tryd.sizeOf24) ?_
                  obtain ⟨v86, hv85, h68⟩ := e_bind h68
                  refine kgk hb84 (n_call Tryd.call16 (w_impl_FracLess hv85) ?_)
                  rintro _ _ ⟨rfl, rfl⟩
                  refine kd (v_pt hb84) ?_
                  refine kops_nil ?_
                  refine kn_then ?_
                  refine kwp_cond rfl (fun hc88 => ?_) (fun hc88 => ?_)
                  ·
                    replace h68 := e_t h68 hc88
                    refine kwp_seq ?_
                    refine kwp_region ?_
                    refine kd (v_as) ?_
                    refine kops_nil ?_
                    refine kn_then ?_
                    refine kwp_ret ?_
                    refine kr_block ?_
                    refine kr_then ?_
                    refine kr_then ?_
                    obtain rfl := e_some h68
                    refine k_out ?_ rfl
                    rintro rfl
                    refine kr_block ?_
                    refine kr_then ?_
                    refine kr_then ?_
                    obtain rfl := e_some g64
                    refine r1 [] ?_
                    exact ⟨rfl, rfl⟩
                  ·
                    replace h68 := e_f h68 hc88
                    refine kwp_skip ?_
                    refine kn_block ?_
                    refine kn_then ?_
                    refine kwp_region ?_
                    refine kd (v_mv) ?_
                    refine kd (v_add) ?_
                    refine kd (v_as) ?_
                    refine kops_nil ?_
                    refine kn_then ?_
                    obtain rfl := e_some h68
                    exact ⟨_, (), rfl, hd_mk trivial⟩
                ·
                  replace h68 := e_f h68 hb84
                  refine kskip hb84 ?_
                  refine kskip hb84 ?_
                  refine kskip hb84 ?_
                  refine kd (v_pf hb84) ?_
                  refine kops_nil ?_
                  refine kn_then ?_
                  refine kwp_cond_f rfl rfl ?_
                  refine kwp_skip ?_
                  refine kn_block ?_
                  refine kn_then ?_
                  refine kwp_region ?_
                  refine kd (v_mv) ?_
                  refine kd (v_add) ?_
                  refine kd (v_as) ?_
                  refine kops_nil ?_
                  refine kn_then ?_
                  obtain rfl := e_some h68
                  exact ⟨_, (), rfl, hd_mk trivial⟩
              ·
                replace h68 := e_f h68 hc71
                refine kwp_exit ?_
                refine ke_then ?_
                obtain rfl := e_some h68
                refine k_out ?_ rfl
                rintro rfl
                refine ke_block ?_
                exact ⟨_, (), rfl, hd_mk trivial⟩
            · intro z89 y90 _ h91
              refine kn_then ?_
              refine kwp_seq ?_
              refine kwp_region ?_
              refine kd (v_ldB Tryd.isAgg32 Tryd.sizeOf32) ?_
              refine kd (v_mv) ?_
              refine kd (v_mv) ?_
              obtain ⟨⟨v93, v94⟩, hv92, h91⟩ := e_bind h91
              refine kk (n_call Tryd.call53 (w_impl_AirResist q71a v4.aw.length q71c hv92) ?_)
              rintro _ _ ⟨rfl, rfl⟩
              refine kd (v_mv) ?_
              refine kd (v_ex) ?_
              refine kd (v_ex) ?_
              refine kk (n_alloc (e := [.int .i64 0, .int .i64 0]) 2 Tryd.zeroValue24 (fun p20_97 => ?_))
              refine kk (s_B (e' := [.int .i64 v93.num, .int .i64 v93.den]) Tryd.sizeOf24 ?_)
              refine kd (v_as) ?_
              refine kops_nil ?_
              refine kn_then ?_
              refine kwp_seq ?_
              refine sp ((v93.num == v12.num) && (v93.den == v12.den)) (fun hb98 => ?_) (fun hb98 => ?_)
              ·
                replace h91 := e_t h91 hb98
                refine sp ((v12.num == 0) == (v5 == v6)) (fun hb99 => ?_) (fun hb99 => ?_)
                ·
                  replace h91 := e_t h91 hb99
                  refine sp (decide (0 ≤ v12.num)) (fun hb100 => ?_) (fun hb100 => ?_)
                  ·
                    replace h91 := e_t h91 hb100
                    obtain ⟨v102, hv101, h91⟩ := e_bind h91
                    refine kwp_tree (.quiet 0 (.quiet 1 (.quiet 2 (.quiet 3 (.quiet 4 (.quiet 5 (.quiet 6 (.quiet 7 (.quiet 8 (.quiet 9 (.quiet 10 (.quiet 11 (.quiet 12 (.quiet 13 (.quiet 14 (.quiet 15 (.quiet 16 (.quiet 17 (.quiet 18 (.quiet 19 (.quiet 20 (.one 21 (.quiet 22 (.quiet 23 (.quiet 24 .stop))))))))))))))))))))))))) [] [⟨.pointer (some p3_10), 2, [[.int .i64 v4.p, .slice q71a v4.aw.length q71c]]⟩, ⟨.pointer (some p6_16), 2, [[.int .i64 v12.num, .int .i64 v12.den]]⟩, ⟨.pointer (some p20_97), 2, [[.int .i64 v93.num, .int .i64 v93.den]]⟩] drawMixed (by kernel_rfl) nopan (by (repeat (first | exact Sub.refl _ | exact Sub.nil _ | refine Sub.chunk (by repeat (first | exact Pick.here | apply Pick.there | apply Pick.seg)) (by rfl) ?_ | refine Sub.seg (by repeat (first | exact PickSeg.here | exact PickSeg.all | apply PickSeg.there | apply PickSeg.seg)) ?_ | exact Sub.seg0 (by repeat (first | exact PickSeg.here | exact PickSeg.all | apply PickSeg.there | apply PickSeg.seg)) | apply Sub.assoc))) ?_
                    refine kt_d rfl rfl rfl (v_ldB Tryd.isAgg24 Tryd.sizeOf24) ?_
                    refine kt_d rfl rfl rfl (v_ldB Tryd.isAgg24 Tryd.sizeOf24) ?_
                    refine kt_d rfl rfl rfl (v_eqa eg_24 he_24 hp_24 (eqf_24 _ _ _ _)) ?_
                    refine kt_d rfl rfl rfl (v_mv) ?_
                    refine kt_gv rfl rfl rfl rfl hb98 (v_fb fa_24_0) ?_
                    refine kt_gv rfl rfl rfl rfl hb98 (v_ldb Tryd.isAgg3) ?_
                    refine kt_gv rfl rfl rfl rfl hb98 (v_cmp) ?_
                    refine kt_gv rfl rfl rfl rfl hb98 (v_mv) ?_
                    refine kt_gv rfl rfl rfl rfl hb98 (v_mv) ?_
                    refine kt_gv rfl rfl rfl rfl hb98 (v_cmp) ?_
                    refine kt_gv rfl rfl rfl rfl hb98 (v_eqb Tryd.underlying4) ?_
                    refine kt_d rfl rfl rfl (v_pt hb98) ?_
                    refine kt_d rfl rfl rfl (v_mv) ?_
                    refine kt_gv rfl rfl rfl rfl hb99 (v_fb fa_24_0) ?_
                    refine kt_gv rfl rfl rfl rfl hb99 (v_ldb Tryd.isAgg3) ?_
                    refine kt_gv rfl rfl rfl rfl hb99 (v_cmp) ?_
                    refine kt_d rfl rfl rfl (v_pt hb99) ?_
                    refine kt_d rfl rfl rfl (v_mv) ?_
                    refine kt_gv rfl rfl rfl rfl hb100 (v_fb fa_24_1) ?_
                    refine kt_gv rfl rfl rfl rfl hb100 (v_ldb Tryd.isAgg3) ?_
                    refine kt_gv rfl rfl rfl rfl hb100 (v_ldB Tryd.isAgg32 Tryd.sizeOf32) ?_
                    refine kt_one ?_
                    refine kl_gk rfl rfl rfl rfl hb100 (n_call Tryd.call37 (w_impl_AirTrees q71a v4.aw.length q71c hv101) ?_)
                    rintro _ _ ⟨rfl, rfl⟩
                    refine ⟨.inl (by (repeat (first | exact Sub.refl _ | exact Sub.nil _ | refine Sub.chunk (by repeat (first | exact Pick.here | apply Pick.there | apply Pick.seg)) (by rfl) ?_ | refine Sub.seg (by repeat (first | exact PickSeg.here | exact PickSeg.all | apply PickSeg.there | apply PickSeg.seg)) ?_ | exact Sub.seg0 (by repeat (first | exact PickSeg.here | exact PickSeg.all | apply PickSeg.there | apply PickSeg.seg)) | apply Sub.assoc))), ?_⟩
                    refine kt_gv rfl rfl rfl rfl hb100 (v_cmp) ?_
                    refine kt_d rfl rfl rfl (v_pt hb100) ?_
                    refine kt_d rfl rfl rfl (v_as) ?_
                    refine kt_nil ?_
                    refine kn_then ?_
                    refine kwp_ret ?_
                    obtain rfl := e_some h91
                    refine r1 [] ?_
                    exact ⟨rfl, rfl⟩
                  ·
                    replace h91 := e_f h91 hb100
                    refine kwp_tree (.quiet 0 (.quiet 1 (.quiet 2 (.quiet 3 (.quiet 4 (.quiet 5 (.quiet 6 (.quiet 7 (.quiet 8 (.quiet 9 (.quiet 10 (.quiet 11 (.quiet 12 (.quiet 13 (.quiet 14 (.quiet 15 (.quiet 16 (.quiet 17 (.quiet 18 (.quiet 19 (.quiet 20 (.one 21 (.quiet 22 (.quiet 23 (.quiet 24 .stop))))))))))))))))))))))))) [] [⟨.pointer (some p6_16), 2, [[.int .i64 v12.num, .int .i64 v12.den]]⟩, ⟨.pointer (some p20_97), 2, [[.int .i64 v93.num, .int .i64 v93.den]]⟩] drawMixed (by kernel_rfl) nopan (by (repeat (first | exact Sub.refl _ | exact Sub.nil _ | refine Sub.chunk (by repeat (first | exact Pick.here | apply Pick.there | apply Pick.seg)) (by rfl) ?_ | refine Sub.seg (by repeat (first | exact PickSeg.here | exact PickSeg.all | apply PickSeg.there | apply PickSeg.seg)) ?_ | exact Sub.seg0 (by repeat (first | exact PickSeg.here | exact PickSeg.all | apply PickSeg.there | apply PickSeg.seg)) | apply Sub.assoc))) ?_
                    refine kt_d rfl rfl rfl (v_ldB Tryd.isAgg24 Tryd.sizeOf24) ?_
                    refine kt_d rfl rfl rfl (v_ldB Tryd.isAgg24 Tryd.sizeOf24) ?_
                    refine kt_d rfl rfl rfl (v_eqa eg_24 he_24 hp_24 (eqf_24 _ _ _ _)) ?_
                    refine kt_d rfl rfl rfl (v_mv) ?_
                    refine kt_gv rfl rfl rfl rfl hb98 (v_fb fa_24_0) ?_
                    refine kt_gv rfl rfl rfl rfl hb98 (v_ldb Tryd.isAgg3) ?_
                    refine kt_gv rfl rfl rfl rfl hb98 (v_cmp) ?_
                    refine kt_gv rfl rfl rfl rfl hb98 (v_mv) ?_
                    refine kt_gv rfl rfl rfl rfl hb98 (v_mv) ?_
                    refine kt_gv rfl rfl rfl rfl hb98 (v_cmp) ?_
                    refine kt_gv rfl rfl rfl rfl hb98 (v_eqb Tryd.underlying4) ?_
                    refine kt_d rfl rfl rfl (v_pt hb98) ?_
                    refine kt_d rfl rfl rfl (v_mv) ?_
                    refine kt_gv rfl rfl rfl rfl hb99 (v_fb fa_24_0) ?_
                    refine kt_gv rfl rfl rfl rfl hb99 (v_ldb Tryd.isAgg3) ?_
                    refine kt_gv rfl rfl rfl rfl hb99 (v_cmp) ?_
                    refine kt_d rfl rfl rfl (v_pt hb99) ?_
                    refine kt_d rfl rfl rfl (v_mv) ?_
                    refine kt_skip rfl rfl rfl rfl hb100 ?_
                    refine kt_skip rfl rfl rfl rfl hb100 ?_
                    refine kt_skip rfl rfl rfl rfl hb100 ?_
                    refine kt_one ?_
                    refine kl_skip rfl rfl rfl rfl hb100 (by (repeat (first | exact Sub.refl _ | exact Sub.nil _ | refine Sub.chunk (by repeat (first | exact Pick.here | apply Pick.there | apply Pick.seg)) (by rfl) ?_ | refine Sub.seg (by repeat (first | exact PickSeg.here | exact PickSeg.all | apply PickSeg.there | apply PickSeg.seg)) ?_ | exact Sub.seg0 (by repeat (first | exact PickSeg.here | exact PickSeg.all | apply PickSeg.there | apply PickSeg.seg)) | apply Sub.assoc))) ?_
                    refine kt_skip rfl rfl rfl rfl hb100 ?_
                    refine kt_d rfl rfl rfl (v_pf hb100) ?_
                    refine kt_d rfl rfl rfl (v_as) ?_
                    refine kt_nil ?_
                    refine kn_then ?_
                    refine kwp_ret ?_
                    obtain rfl := e_some h91
                    refine r1 [] ?_
                    exact ⟨rfl, rfl⟩
                ·
                  replace h91 := e_f h91 hb99
                  refine kwp_tree (.quiet 0 (.quiet 1 (.quiet 2 (.quiet 3 (.quiet 4 (.quiet 5 (.quiet 6 (.quiet 7 (.quiet 8 (.quiet 9 (.quiet 10 (.quiet 11 (.quiet 12 (.quiet 13 (.quiet 14 (.quiet 15 (.quiet 16 (.quiet 17 (.quiet 18 (.quiet 19 (.quiet 20 (.one 21 (.quiet 22 (.quiet 23 (.quiet 24 .stop))))))))))))))))))))))))) [] [⟨.pointer (some p6_16), 2, [[.int .i64 v12.num, .int .i64 v12.den]]⟩, ⟨.pointer (some p20_97), 2, [[.int .i64 v93.num, .int .i64 v93.den]]⟩] drawMixed (by kernel_rfl) nopan (by (repeat (first | exact Sub.refl _ | exact Sub.nil _ | refine Sub.chunk (by repeat (first | exact Pick.here | apply Pick.there | apply Pick.seg)) (by rfl) ?_ | refine Sub.seg (by repeat (first | exact PickSeg.here | exact PickSeg.all | apply PickSeg.there | apply PickSeg.seg)) ?_ | exact Sub.seg0 (by repeat (first | exact PickSeg.here | exact PickSeg.all | apply PickSeg.there | apply PickSeg.seg)) | apply Sub.assoc))) ?_
                  refine kt_d rfl rfl rfl (v_ldB Tryd.isAgg24 Tryd.sizeOf24) ?_
                  refine kt_d rfl rfl rfl (v_ldB Tryd.isAgg24 Tryd.sizeOf24) ?_
                  refine kt_d rfl rfl rfl (v_eqa eg_24 he_24 hp_24 (eqf_24 _ _ _ _)) ?_
                  refine kt_d rfl rfl rfl (v_mv) ?_
                  refine kt_gv rfl rfl rfl rfl hb98 (v_fb fa_24_0) ?_
                  refine kt_gv rfl rfl rfl rfl hb98 (v_ldb Tryd.isAgg3) ?_
                  refine kt_gv rfl rfl rfl rfl hb98 (v_cmp) ?_
                  refine kt_gv rfl rfl rfl rfl hb98 (v_mv) ?_
                  refine kt_gv rfl rfl rfl rfl hb98 (v_mv) ?_
                  refine kt_gv rfl rfl rfl rfl hb98 (v_cmp) ?_
                  refine kt_gv rfl rfl rfl rfl hb98 (v_eqb Tryd.underlying4) ?_
                  refine kt_d rfl rfl rfl (v_pt hb98) ?_
                  refine kt_d rfl rfl rfl (v_mv) ?_
                  refine kt_skip rfl rfl rfl rfl hb99 ?_
                  refine kt_skip rfl rfl rfl rfl hb99 ?_
                  refine kt_skip rfl rfl rfl rfl hb99 ?_
                  refine kt_d rfl rfl rfl (v_pf hb99) ?_
                  refine kt_d rfl rfl rfl (v_mv) ?_
                  refine kt_skip rfl rfl rfl rfl rfl ?_
                  refine kt_skip rfl rfl rfl rfl rfl ?_
                  refine kt_skip rfl rfl rfl rfl rfl ?_
                  refine kt_one ?_
                  refine kl_skip rfl rfl rfl rfl rfl (by (repeat (first | exact Sub.refl _ | exact Sub.nil _ | refine Sub.chunk (by repeat (first | exact Pick.here | apply Pick.there | apply Pick.seg)) (by rfl) ?_ | refine Sub.seg (by repeat (first | exact PickSeg.here | exact PickSeg.all | apply PickSeg.there | apply PickSeg.seg)) ?_ | exact Sub.seg0 (by repeat (first | exact PickSeg.here | exact PickSeg.all | apply PickSeg.there | apply PickSeg.seg)) | apply Sub.assoc))) ?_
                  refine kt_skip rfl rfl rfl rfl rfl ?_
                  refine kt_d rfl rfl rfl (v_pf rfl) ?_
                  refine kt_d rfl rfl rfl (v_as) ?_
                  refine kt_nil ?_
                  refine kn_then ?_
                  refine kwp_ret ?_
                  obtain rfl := e_some h91
                  refine r1 [] ?_
                  exact ⟨rfl, rfl⟩
              ·
                replace h91 := e_f h91 hb98
                refine kwp_tree (.quiet 0 (.quiet 1 (.quiet 2 (.quiet 3 (.quiet 4 (.quiet 5 (.quiet 6 (.quiet 7 (.quiet 8 (.quiet 9 (.quiet 10 (.quiet 11 (.quiet 12 (.quiet 13 (.quiet 14 (.quiet 15 (.quiet 16 (.quiet 17 (.quiet 18 (.quiet 19 (.quiet 20 (.one 21 (.quiet 22 (.quiet 23 (.quiet 24 .stop))))))))))))))))))))))))) [] [⟨.pointer (some p6_16), 2, [[.int .i64 v12.num, .int .i64 v12.den]]⟩, ⟨.pointer (some p20_97), 2, [[.int .i64 v93.num, .int .i64 v93.den]]⟩] drawMixed (by kernel_rfl) nopan (by (repeat (first | exact Sub.refl _ | exact Sub.nil _ | refine Sub.chunk (by repeat (first | exact Pick.here | apply Pick.there | apply Pick.seg)) (by rfl) ?_ | refine Sub.seg (by repeat (first | exact PickSeg.here | exact PickSeg.all | apply PickSeg.there | apply PickSeg.seg)) ?_ | exact Sub.seg0 (by repeat (first | exact PickSeg.here | exact PickSeg.all | apply PickSeg.there | apply PickSeg.seg)) | apply Sub.assoc))) ?_
                refine kt_d rfl rfl rfl (v_ldB Tryd.isAgg24 Tryd.sizeOf24) ?_
                refine kt_d rfl rfl rfl (v_ldB Tryd.isAgg24 Tryd.sizeOf24) ?_
                refine kt_d rfl rfl rfl (v_eqa eg_24 he_24 hp_24 (eqf_24 _ _ _ _)) ?_
                refine kt_d rfl rfl rfl (v_mv) ?_
                refine kt_skip rfl rfl rfl rfl hb98 ?_
                refine kt_skip rfl rfl rfl rfl hb98 ?_
                refine kt_skip rfl rfl rfl rfl hb98 ?_
                refine kt_skip rfl rfl rfl rfl hb98 ?_
                refine kt_skip rfl rfl rfl rfl hb98 ?_
                refine kt_skip rfl rfl rfl rfl hb98 ?_
                refine kt_skip rfl rfl rfl rfl hb98 ?_
                refine kt_d rfl rfl rfl (v_pf hb98) ?_
                refine kt_d rfl rfl rfl (v_mv) ?_
                refine kt_skip rfl rfl rfl rfl rfl ?_
                refine kt_skip rfl rfl rfl rfl rfl ?_
                refine kt_skip rfl rfl rfl rfl rfl ?_
                refine kt_d rfl rfl rfl (v_pf rfl) ?_
                refine kt_d rfl rfl rfl (v_mv) ?_
                refine kt_skip rfl rfl rfl rfl rfl ?_
                refine kt_skip rfl rfl rfl rfl rfl ?_
                refine kt_skip rfl rfl rfl rfl rfl ?_
                refine kt_one ?_
                refine kl_skip rfl rfl rfl rfl rfl (by (repeat (first | exact Sub.refl _ | exact Sub.nil _ | refine Sub.chunk (by repeat (first | exact Pick.here | apply Pick.there | apply Pick.seg)) (by rfl) ?_ | refine Sub.seg (by repeat (first | exact PickSeg.here | exact PickSeg.all | apply PickSeg.there | apply PickSeg.seg)) ?_ | exact Sub.seg0 (by repeat (first | exact PickSeg.here | exact PickSeg.all | apply PickSeg.there | apply PickSeg.seg)) | apply Sub.assoc))) ?_
                refine kt_skip rfl rfl rfl rfl rfl ?_
                refine kt_d rfl rfl rfl (v_pf rfl) ?_
                refine kt_d rfl rfl rfl (v_as) ?_
                refine kt_nil ?_
                refine kn_then ?_
                refine kwp_ret ?_
                obtain rfl := e_some h91
                refine r1 [] ?_
                exact ⟨rfl, rfl⟩

end Go.Proofs.YtpfijnklnljccaaDoor
