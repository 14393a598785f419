/- What the plain programs return, the functions of the program return; no condition. -/
import Derived.Test.YtfgialdcilldiaaQx
import Derived.Test.YtfgialdcilldiaaFa
import Derived.Test.YtfgialdcilldiaaVv
namespace Go.Proofs.Ytfgialdcilldiaa
open Go
set_option linter.unusedVariables false
set_option linter.unusedSimpArgs false

set_option maxRecDepth 20000 in
set_option maxHeartbeats 2000000 in
theorem w_impl_CaveValid (c00a : Option Addr) (c00n : Nat) (c00c : Nat) (c01a : Option Addr) (c01n : Nat) (c01c : Nat) (c02a : Option Addr) (c02n : Nat) (c02c : Nat) {c0 : Cave} {r : Bool} (h : p_impl_CaveValid c0 = some r) :
    Triple Try.prog 26 [.agg #[.slice c00a c00n c00c, .slice c01a c01n c01c, .slice c02a c02n c02c]] [⟨.slice c00a c00n c00c, 1, c0.fl.map encI⟩, ⟨.slice c01a c01n c01c, 1, c0.ar.map encI⟩, ⟨.slice c02a c02n c02c, 3, c0.si.map encSill⟩] [] (fun v ch => v = .bool r ∧ ch = []) := by
  refine triple_start 113 Try.func26 Try.ntmps26 rfl rfl (fun w0 => ?_)
  refine k_len (c := c00c) (fun hl1 => ?_)
  subst hl1
  refine k_len (c := c01c) (fun hl2 => ?_)
  subst hl2
  refine k_len (c := c02c) (fun hl3 => ?_)
  subst hl3
  unfold p_impl_CaveValid at h
  refine kwp_seq ?_
  refine kwp_region ?_
  refine kk (n_box (e := [.slice c00a c0.fl.length c00c, .slice c01a c0.ar.length c01c, .slice c02a c0.si.length c02c]) 3 (fun p1_4 => ?_))
  refine kd (v_as) ?_
  refine kops_nil ?_
  refine kn_then ?_
  refine kwp_seq ?_
  refine kwp_region ?_
  refine kd (v_fb fa_47_0) ?_
  refine kd (v_ldb Try.isAgg39) ?_
  refine kd (v_len Try.runUnderlying39) ?_
  refine kd (v_as) ?_
  refine kops_nil ?_
  refine kn_then ?_
  refine kwp_seq ?_
  refine kwp_seq ?_
  refine kwp_cutE (inv := [(1, .pointer (some p1_4)), (3, .int .i64 ((c0.fl.length : Nat) : Int))]) (fun (z : Bool) (y : Unit) => [(29, .bool z)]) (fun (z : Bool) (y : Unit) => [⟨.pointer (some p1_4), 3, [[.slice c00a c0.fl.length c00c, .slice c01a c0.ar.length c01c, .slice c02a c0.si.length c02c]]⟩]) (fun _ _ => True) h ?_ ?_
  · intro t8 h6
    refine kwp_region ?_
    refine kd (v_mv) ?_
    refine kd (v_cmp) ?_
    refine kd (v_mv) ?_
    refine kops_split 13 rfl (fun hb9 => ?_) (fun hb9 => ?_)
    ·
      replace h6 := e_t h6 hb9
      refine kskip hb9 ?_
      refine kskip hb9 ?_
      refine kd (v_pt hb9) ?_
      refine kd (v_mv) ?_
      refine kskip rfl ?_
      refine kskip rfl ?_
      refine kskip rfl ?_
      refine kskip rfl ?_
      refine kskip rfl ?_
      refine kd (v_pt rfl) ?_
      refine kd (v_mv) ?_
      refine kskip rfl ?_
      refine kskip rfl ?_
      refine kskip rfl ?_
      refine kskip rfl ?_
      refine kd (v_pt rfl) ?_
      refine kops_nil ?_
      refine kn_then ?_
      obtain rfl := e_some h6
      exact ⟨(), hd_mk trivial⟩
    ·
      replace h6 := e_f h6 hb9
      refine kgd hb9 (v_mv) ?_
      refine kgd hb9 (v_cmp) ?_
      refine kd (v_pf hb9) ?_
      refine kd (v_mv) ?_
      refine kops_split 17 rfl (fun hb10 => ?_) (fun hb10 => ?_)
      ·
        replace h6 := e_t h6 hb10
        refine kskip hb10 ?_
        refine kskip hb10 ?_
        refine kskip hb10 ?_
        refine kskip hb10 ?_
        refine kskip hb10 ?_
        refine kd (v_pt hb10) ?_
        refine kd (v_mv) ?_
        refine kskip rfl ?_
        refine kskip rfl ?_
        refine kskip rfl ?_
        refine kskip rfl ?_
        refine kd (v_pt rfl) ?_
        refine kops_nil ?_
        refine kn_then ?_
        obtain rfl := e_some h6
        exact ⟨(), hd_mk trivial⟩
      ·
        replace h6 := e_f h6 hb10
        refine kgd hb10 (v_fb fa_47_1) ?_
        refine kgd hb10 (v_ldb Try.isAgg39) ?_
        refine kgd hb10 (v_len Try.runUnderlying39) ?_
        refine kgd hb10 (v_mv) ?_
        refine kgd hb10 (v_cmp) ?_
        refine kd (v_pf hb10) ?_
        refine kd (v_mv) ?_
        refine kops_split 24 rfl (fun hb11 => ?_) (fun hb11 => ?_)
        ·
          replace h6 := e_t h6 hb11
          refine kskip hb11 ?_
          refine kskip hb11 ?_
          refine kskip hb11 ?_
          refine kskip hb11 ?_
          refine kd (v_pt hb11) ?_
          refine kops_nil ?_
          refine kn_then ?_
          obtain rfl := e_some h6
          exact ⟨(), hd_mk trivial⟩
        ·
          replace h6 := e_f h6 hb11
          refine kgd hb11 (v_fb fa_47_2) ?_
          refine kgd hb11 (v_ldb Try.isAgg45) ?_
          refine kgd hb11 (v_len Try.runUnderlying45) ?_
          refine kgd hb11 (v_cmp) ?_
          refine kd (v_pf hb11) ?_
          refine kops_nil ?_
          refine kn_then ?_
          obtain rfl := e_some h6
          exact ⟨(), hd_mk trivial⟩
  · intro x5 y13 _ h14
    refine kn_then ?_
    refine kwp_cond rfl (fun hc15 => ?_) (fun hc15 => ?_)
    ·
      replace h14 := e_t h14 hc15
      refine kwp_seq ?_
      refine kwp_region ?_
      refine kd (v_as) ?_
      refine kops_nil ?_
      refine kn_then ?_
      refine kwp_ret ?_
      refine kr_then ?_
      obtain rfl := e_some h14
      refine r1 [] ?_
      exact ⟨rfl, rfl⟩
    ·
      replace h14 := e_f h14 hc15
      refine kwp_skip ?_
      refine kn_then ?_
      refine kwp_seq ?_
      refine kwp_seq ?_
      refine kwp_region ?_
      refine kd (v_fb fa_47_0) ?_
      refine kd (v_ldb Try.isAgg39) ?_
      refine kd (v_len Try.runUnderlying39) ?_
      refine kd (v_mv) ?_
      refine kops_nil ?_
      refine kn_then ?_
      refine kwp_cutO (inv := [(1, .pointer (some p1_4)), (3, .int .i64 ((c0.fl.length : Nat) : Int))]) (fun (z : Unit) (y : Unit) => []) (fun (z : Unit) (y : Unit) => [⟨.pointer (some p1_4), 3, [[.slice c00a c0.fl.length c00c, .slice c01a c0.ar.length c01c, .slice c02a c0.si.length c02c]]⟩]) (fun _ _ => True) h14 ?_ ?_
      · intro t18 h16 g17
        refine kwp_block ?_
        refine kwp_loopE (inv := [(1, .pointer (some p1_4)), (3, .int .i64 ((c0.fl.length : Nat) : Int)), (31, .slice c00a c0.fl.length c00c), (32, .int .i64 ((c0.fl.length : Nat) : Int))]) (fun (z : Int) (y : Unit) => [(33, .int .i64 z)]) (fun (z : Int) (y : Unit) => [⟨.pointer (some p1_4), 3, [[.slice c00a c0.fl.length c00c, .slice c01a c0.ar.length c01c, .slice c02a c0.si.length c02c]]⟩]) (fun _ _ => True) h16 ⟨(), hd_mk trivial⟩ ?_
        intro x19 y23 b20 _ h21
        unfold p_impl_CaveValid_L0 at h21
        refine kwp_seq ?_
        refine kwp_region ?_
        refine kd (v_cmp) ?_
        refine kops_nil ?_
        refine kn_then ?_
        refine kwp_seq ?_
        refine kwp_cond rfl (fun hc24 => ?_) (fun hc24 => ?_)
        ·
          replace h21 := e_t h21 hc24
          refine kwp_skip ?_
          refine kn_then ?_
          refine kwp_seq ?_
          refine kwp_block ?_
          refine kwp_seq ?_
          refine kwp_region ?_
          refine kd (v_mv) ?_
          obtain ⟨j25, ej25, nj25, h21⟩ := e_idx h21
          refine kd (v_ia ej25 nj25 Try.runUnderlying39 Try.sizeOf3) ?_
          refine kd (v_ldf nj25 Try.isAgg3) ?_
          refine kd (v_as) ?_
          refine kd (v_as) ?_
          refine kops_nil ?_
          refine kn_then ?_
          refine kwp_seq ?_
          refine kwp_region ?_
          refine kd (v_mv) ?_
          refine kd (v_cmp) ?_
          refine kd (v_mv) ?_
          refine kops_split 40 rfl (fun hb26 => ?_) (fun hb26 => ?_)
          ·
            replace h21 := e_t h21 hb26
            refine kskip hb26 ?_
            refine kskip hb26 ?_
            refine kd (v_pt hb26) ?_
            refine kd (v_mv) ?_
            refine kskip rfl ?_
            refine kskip rfl ?_
            refine kskip rfl ?_
            refine kskip rfl ?_
            refine kskip rfl ?_
            refine kskip rfl ?_
            refine kd (v_pt rfl) ?_
            refine kd (v_mv) ?_
            refine kskip rfl ?_
            refine kskip rfl ?_
            refine kskip rfl ?_
            refine kskip rfl ?_
            refine kskip rfl ?_
            refine kskip rfl ?_
            refine kd (v_pt rfl) ?_
            refine kops_nil ?_
            refine kn_then ?_
            refine kwp_cond_t rfl rfl ?_
            refine kwp_seq ?_
            refine kwp_region ?_
            refine kd (v_as) ?_
            refine kops_nil ?_
            refine kn_then ?_
            refine kwp_ret ?_
            refine kr_block ?_
            refine kr_then ?_
            refine kr_then ?_
            obtain rfl := e_some h21
            refine k_out ?_ rfl
            rintro rfl
            refine kr_block ?_
            refine kr_then ?_
            refine kr_then ?_
            obtain rfl := e_some g17
            refine r1 [] ?_
            exact ⟨rfl, rfl⟩
          ·
            replace h21 := e_f h21 hb26
            refine kgd hb26 (v_mv) ?_
            refine kgd hb26 (v_cmp) ?_
            refine kd (v_pf hb26) ?_
            refine kd (v_mv) ?_
            refine kops_split 44 rfl (fun hb27 => ?_) (fun hb27 => ?_)
            ·
              replace h21 := e_t h21 hb27
              refine kskip hb27 ?_
              refine kskip hb27 ?_
              refine kskip hb27 ?_
              refine kskip hb27 ?_
              refine kskip hb27 ?_
              refine kskip hb27 ?_
              refine kd (v_pt hb27) ?_
              refine kd (v_mv) ?_
              refine kskip rfl ?_
              refine kskip rfl ?_
              refine kskip rfl ?_
              refine kskip rfl ?_
              refine kskip rfl ?_
              refine kskip rfl ?_
              refine kd (v_pt rfl) ?_
              refine kops_nil ?_
              refine kn_then ?_
              refine kwp_cond_t rfl rfl ?_
              refine kwp_seq ?_
              refine kwp_region ?_
              refine kd (v_as) ?_
              refine kops_nil ?_
              refine kn_then ?_
              refine kwp_ret ?_
              refine kr_block ?_
              refine kr_then ?_
              refine kr_then ?_
              obtain rfl := e_some h21
              refine k_out ?_ rfl
              rintro rfl
              refine kr_block ?_
              refine kr_then ?_
              refine kr_then ?_
              obtain rfl := e_some g17
              refine r1 [] ?_
              exact ⟨rfl, rfl⟩
            ·
              replace h21 := e_f h21 hb27
              refine kgd hb27 (v_fb fa_47_1) ?_
              refine kgd hb27 (v_ldb Try.isAgg39) ?_
              refine kgd hb27 (v_mv) ?_
              obtain ⟨j28, ej28, nj28, h21⟩ := e_idx h21
              refine kgd hb27 (v_ia ej28 nj28 Try.runUnderlying39 Try.sizeOf3) ?_
              refine kgd hb27 (v_ldf nj28 Try.isAgg3) ?_
              refine kgd hb27 (v_cmp) ?_
              refine kd (v_pf hb27) ?_
              refine kd (v_mv) ?_
              refine kops_split 52 rfl (fun hb29 => ?_) (fun hb29 => ?_)
              ·
                replace h21 := e_t h21 hb29
                refine kskip hb29 ?_
                refine kskip hb29 ?_
                refine kskip hb29 ?_
                refine kskip hb29 ?_
                refine kskip hb29 ?_
                refine kskip hb29 ?_
                refine kd (v_pt hb29) ?_
                refine kops_nil ?_
                refine kn_then ?_
                refine kwp_cond_t rfl rfl ?_
                refine kwp_seq ?_
                refine kwp_region ?_
                refine kd (v_as) ?_
                refine kops_nil ?_
                refine kn_then ?_
                refine kwp_ret ?_
                refine kr_block ?_
                refine kr_then ?_
                refine kr_then ?_
                obtain rfl := e_some h21
                refine k_out ?_ rfl
                rintro rfl
                refine kr_block ?_
                refine kr_then ?_
                refine kr_then ?_
                obtain rfl := e_some g17
                refine r1 [] ?_
                exact ⟨rfl, rfl⟩
              ·
                replace h21 := e_f h21 hb29
                refine kgd hb29 (v_fb fa_47_1) ?_
                refine kgd hb29 (v_ldb Try.isAgg39) ?_
                refine kgd hb29 (v_mv) ?_
                refine kgd hb29 (v_ia ej28 nj28 Try.runUnderlying39 Try.sizeOf3) ?_
                refine kgd hb29 (v_ldf nj28 Try.isAgg3) ?_
                refine kgd hb29 (v_cmp) ?_
                refine kd (v_pf hb29) ?_
                refine kops_nil ?_
                refine kn_then ?_
                refine kwp_cond rfl (fun hc30 => ?_) (fun hc30 => ?_)
                ·
                  replace h21 := e_t h21 hc30
                  refine kwp_seq ?_
                  refine kwp_region ?_
                  refine kd (v_as) ?_
                  refine kops_nil ?_
                  refine kn_then ?_
                  refine kwp_ret ?_
                  refine kr_block ?_
                  refine kr_then ?_
                  refine kr_then ?_
                  obtain rfl := e_some h21
                  refine k_out ?_ rfl
                  rintro rfl
                  refine kr_block ?_
                  refine kr_then ?_
                  refine kr_then ?_
                  obtain rfl := e_some g17
                  refine r1 [] ?_
                  exact ⟨rfl, rfl⟩
                ·
                  replace h21 := e_f h21 hc30
                  refine kwp_skip ?_
                  refine kn_block ?_
                  refine kn_then ?_
                  refine kwp_region ?_
                  refine kd (v_add) ?_
                  refine kd (v_mv) ?_
                  refine kops_nil ?_
                  refine kn_then ?_
                  obtain rfl := e_some h21
                  exact ⟨_, (), rfl, hd_mk trivial⟩
        ·
          replace h21 := e_f h21 hc24
          refine kwp_exit ?_
          refine ke_then ?_
          obtain rfl := e_some h21
          refine k_out ?_ rfl
          rintro rfl
          refine ke_block ?_
          exact ⟨_, (), rfl, hd_mk trivial⟩
      · intro z31 y32 _ h33
        refine kn_then ?_
        refine kwp_seq ?_
        refine kwp_seq ?_
        refine kwp_region ?_
        refine kd (v_fb fa_47_2) ?_
        refine kd (v_ldb Try.isAgg45) ?_
        refine kd (v_len Try.runUnderlying45) ?_
        refine kd (v_mv) ?_
        refine kops_nil ?_
        refine kn_then ?_
        refine kwp_cutO (inv := []) (fun (z : Unit) (y : Unit) => []) (fun (z : Unit) (y : Unit) => []) (fun _ _ => True) h33 ?_ ?_
        · intro t36 h34 g35
          refine kwp_block ?_
          refine kwp_loopE (inv := [(1, .pointer (some p1_4)), (3, .int .i64 ((c0.fl.length : Nat) : Int)), (62, .slice c02a c0.si.length c02c), (63, .int .i64 ((c0.si.length : Nat) : Int))]) (fun (z : Int) (y : Unit) => [(64, .int .i64 z)]) (fun (z : Int) (y : Unit) => [⟨.pointer (some p1_4), 3, [[.slice c00a c0.fl.length c00c, .slice c01a c0.ar.length c01c, .slice c02a c0.si.length c02c]]⟩]) (fun _ _ => True) h34 ⟨(), hd_mk trivial⟩ ?_
          intro x37 y41 b38 _ h39
          unfold p_impl_CaveValid_L1 at h39
          refine kwp_seq ?_
          refine kwp_region ?_
          refine kd (v_cmp) ?_
          refine kops_nil ?_
          refine kn_then ?_
          refine kwp_seq ?_
          refine kwp_cond rfl (fun hc42 => ?_) (fun hc42 => ?_)
          ·
            replace h39 := e_t h39 hc42
            refine kwp_skip ?_
            refine kn_then ?_
            refine kwp_seq ?_
            refine kwp_block ?_
            refine kwp_seq ?_
            refine kwp_region ?_
            obtain ⟨j43, ej43, nj43, h39⟩ := e_idx h39
            refine kd (v_ia ej43 nj43 Try.runUnderlying45 Try.sizeOf83) ?_
            refine kd (v_lda (e := [_, _, _]) nj43 Try.isAgg83 Try.sizeOf83) ?_
            refine kk (n_alloc (e := [.int .i64 0, .int .i64 0, .int .i64 0]) 3 Try.zeroValue83 (fun p7_44 => ?_))
            refine kk (s_B (e' := [.int .i64 ((gx c0.si j43).a), .int .i64 ((gx c0.si j43).b), .int .i64 ((gx c0.si j43).high)]) Try.sizeOf83 ?_)
            refine kops_nil ?_
            refine kn_then ?_
            refine kwp_seq ?_
            refine kwp_seq ?_
            refine kwp_cutE (inv := [(1, .pointer (some p1_4)), (3, .int .i64 ((c0.fl.length : Nat) : Int)), (7, .pointer (some p7_44)), (62, .slice c02a c0.si.length c02c), (63, .int .i64 ((c0.si.length : Nat) : Int)), (64, .int .i64 x37)]) (fun (z : Bool) (y : Unit) => [(86, .bool z)]) (fun (z : Bool) (y : Unit) => [⟨.pointer (some p1_4), 3, [[.slice c00a c0.fl.length c00c, .slice c01a c0.ar.length c01c, .slice c02a c0.si.length c02c]]⟩, ⟨.pointer (some p7_44), 3, [[.int .i64 ((gx c0.si j43).a), .int .i64 ((gx c0.si j43).b), .int .i64 ((gx c0.si j43).high)]]⟩]) (fun _ _ => True) h39 ?_ ?_
            · intro t48 h46
              refine kwp_region ?_
              refine kd (v_fb fa_83_0) ?_
              refine kd (v_ldb Try.isAgg3) ?_
              refine kd (v_mv) ?_
              obtain ⟨v50, hv49, h46⟩ := e_bind h46
              refine kk (n_call Try.call60 (w_impl_isIndex hv49) ?_)
              rintro _ _ ⟨rfl, rfl⟩
              refine kd (v_not) ?_
              refine kd (v_mv) ?_
              refine kops_split 73 rfl (fun hb52 => ?_) (fun hb52 => ?_)
              ·
                replace h46 := e_t h46 hb52
                refine kskip hb52 ?_
                refine kskip hb52 ?_
                refine kskip hb52 ?_
                refine kskip hb52 ?_
                refine kskip hb52 ?_
                refine kd (v_pt hb52) ?_
                refine kd (v_mv) ?_
                refine kskip rfl ?_
                refine kskip rfl ?_
                refine kskip rfl ?_
                refine kskip rfl ?_
                refine kskip rfl ?_
                refine kd (v_pt rfl) ?_
                refine kops_nil ?_
                refine kn_then ?_
                obtain rfl := e_some h46
                exact ⟨(), hd_mk trivial⟩
              ·
                replace h46 := e_f h46 hb52
                refine kgd hb52 (v_fb fa_83_1) ?_
                refine kgd hb52 (v_ldb Try.isAgg3) ?_
                refine kgd hb52 (v_mv) ?_
                obtain ⟨v54, hv53, h46⟩ := e_bind h46
                refine kgk hb52 (n_call Try.call60 (w_impl_isIndex hv53) ?_)
                rintro _ _ ⟨rfl, rfl⟩
                refine kgd hb52 (v_not) ?_
                refine kd (v_pf hb52) ?_
                refine kd (v_mv) ?_
                refine kops_split 80 rfl (fun hb56 => ?_) (fun hb56 => ?_)
                ·
                  replace h46 := e_t h46 hb56
                  refine kskip hb56 ?_
                  refine kskip hb56 ?_
                  refine kskip hb56 ?_
                  refine kskip hb56 ?_
                  refine kskip hb56 ?_
                  refine kd (v_pt hb56) ?_
                  refine kops_nil ?_
                  refine kn_then ?_
                  obtain rfl := e_some h46
                  exact ⟨(), hd_mk trivial⟩
                ·
                  replace h46 := e_f h46 hb56
                  refine kgd hb56 (v_fb fa_83_0) ?_
                  refine kgd hb56 (v_ldb Try.isAgg3) ?_
                  refine kgd hb56 (v_fb fa_83_1) ?_
                  refine kgd hb56 (v_ldb Try.isAgg3) ?_
                  refine kgd hb56 (v_cmp) ?_
                  refine kd (v_pf hb56) ?_
                  refine kops_nil ?_
                  refine kn_then ?_
                  obtain rfl := e_some h46
                  exact ⟨(), hd_mk trivial⟩
            · intro x45 y58 _ h59
              refine kn_then ?_
              refine kwp_cond rfl (fun hc60 => ?_) (fun hc60 => ?_)
              ·
                replace h59 := e_t h59 hc60
                refine kwp_seq ?_
                refine kwp_region ?_
                refine kd (v_as) ?_
                refine kops_nil ?_
                refine kn_then ?_
                refine kwp_ret ?_
                refine kr_then ?_
                refine kr_block ?_
                refine kr_then ?_
                refine kr_then ?_
                obtain rfl := e_some h59
                refine k_out ?_ rfl
                rintro rfl
                refine kr_block ?_
                refine kr_then ?_
                refine kr_then ?_
                obtain rfl := e_some g35
                refine r1 [] ?_
                exact ⟨rfl, rfl⟩
              ·
                replace h59 := e_f h59 hc60
                refine kwp_skip ?_
                refine kn_then ?_
                refine kwp_seq ?_
                obtain ⟨j61, ej61, nj61, h59⟩ := e_idx h59
                refine sp (decide (((gx c0.si j43).high) < (gx c0.fl j61))) (fun hb62 => ?_) (fun hb62 => ?_)
                ·
                  replace h59 := e_t h59 hb62
                  refine kwp_tree (.quiet 0 (.quiet 1 (.quiet 2 (.quiet 3 (.quiet 4 (.quiet 5 (.quiet 6 (.quiet 7 (.quiet 8 (.quiet 9 (.quiet 10 (.quiet 11 (.quiet 12 (.quiet 13 (.quiet 14 (.quiet 15 (.quiet 16 (.quiet 17 (.quiet 18 (.quiet 19 (.quiet 20 (.quiet 21 (.quiet 22 (.quiet 23 (.quiet 24 .stop))))))))))))))))))))))))) [] [⟨.pointer (some p1_4), 3, [[.slice c00a c0.fl.length c00c, .slice c01a c0.ar.length c01c, .slice c02a c0.si.length c02c]]⟩, ⟨.pointer (some p7_44), 3, [[.int .i64 ((gx c0.si j43).a), .int .i64 ((gx c0.si j43).b), .int .i64 ((gx c0.si j43).high)]]⟩] drawMixed (by kernel_rfl) nopan (by (repeat (first | exact Sub.refl _ | exact Sub.nil _ | refine Sub.chunk (by repeat (first | exact Pick.here | apply Pick.there | apply Pick.seg)) (by rfl) ?_ | refine Sub.seg (by repeat (first | exact PickSeg.here | exact PickSeg.all | apply PickSeg.there | apply PickSeg.seg)) ?_ | exact Sub.seg0 (by repeat (first | exact PickSeg.here | exact PickSeg.all | apply PickSeg.there | apply PickSeg.seg)) | apply Sub.assoc))) ?_
                  refine kt_d rfl rfl rfl (v_fb fa_83_2) ?_
                  refine kt_d rfl rfl rfl (v_ldb Try.isAgg3) ?_
                  refine kt_d rfl rfl rfl (v_fb fa_47_0) ?_
                  refine kt_d rfl rfl rfl (v_ldb Try.isAgg39) ?_
                  refine kt_d rfl rfl rfl (v_fb fa_83_0) ?_
                  refine kt_d rfl rfl rfl (v_ldb Try.isAgg3) ?_
                  refine kt_d rfl rfl rfl (v_ia ej61 nj61 Try.runUnderlying39 Try.sizeOf3) ?_
                  refine kt_d rfl rfl rfl (v_ldf nj61 Try.isAgg3) ?_
                  refine kt_d rfl rfl rfl (v_cmp) ?_
                  refine kt_d rfl rfl rfl (v_mv) ?_
                  refine kt_skip rfl rfl rfl rfl hb62 ?_
                  refine kt_skip rfl rfl rfl rfl hb62 ?_
                  refine kt_skip rfl rfl rfl rfl hb62 ?_
                  refine kt_skip rfl rfl rfl rfl hb62 ?_
                  refine kt_skip rfl rfl rfl rfl hb62 ?_
                  refine kt_skip rfl rfl rfl rfl hb62 ?_
                  refine kt_skip rfl rfl rfl rfl hb62 ?_
                  refine kt_skip rfl rfl rfl rfl hb62 ?_
                  refine kt_skip rfl rfl rfl rfl hb62 ?_
                  refine kt_d rfl rfl rfl (v_pt hb62) ?_
                  refine kt_d rfl rfl rfl (v_mv) ?_
                  refine kt_skip rfl rfl rfl rfl rfl ?_
                  refine kt_skip rfl rfl rfl rfl rfl ?_
                  refine kt_skip rfl rfl rfl rfl rfl ?_
                  refine kt_d rfl rfl rfl (v_pt rfl) ?_
                  refine kt_nil ?_
                  refine kn_then ?_
                  refine kwp_cond_t rfl rfl ?_
                  refine kwp_seq ?_
                  refine kwp_region ?_
                  refine kd (v_as) ?_
                  refine kops_nil ?_
                  refine kn_then ?_
                  refine kwp_ret ?_
                  refine kr_block ?_
                  refine kr_then ?_
                  refine kr_then ?_
                  obtain rfl := e_some h59
                  refine k_out ?_ rfl
                  rintro rfl
                  refine kr_block ?_
                  refine kr_then ?_
                  refine kr_then ?_
                  obtain rfl := e_some g35
                  refine r1 [] ?_
                  exact ⟨rfl, rfl⟩
                ·
                  replace h59 := e_f h59 hb62
                  obtain ⟨j63, ej63, nj63, h59⟩ := e_idx h59
                  refine sp (decide (((gx c0.si j43).high) < (gx c0.fl j63))) (fun hb64 => ?_) (fun hb64 => ?_)
                  ·
                    replace h59 := e_t h59 hb64
                    refine kwp_tree (.quiet 0 (.quiet 1 (.quiet 2 (.quiet 3 (.quiet 4 (.quiet 5 (.quiet 6 (.quiet 7 (.quiet 8 (.quiet 9 (.quiet 10 (.quiet 11 (.quiet 12 (.quiet 13 (.quiet 14 (.quiet 15 (.quiet 16 (.quiet 17 (.quiet 18 (.quiet 19 (.quiet 20 (.quiet 21 (.quiet 22 (.quiet 23 (.quiet 24 .stop))))))))))))))))))))))))) [] [⟨.pointer (some p1_4), 3, [[.slice c00a c0.fl.length c00c, .slice c01a c0.ar.length c01c, .slice c02a c0.si.length c02c]]⟩, ⟨.pointer (some p7_44), 3, [[.int .i64 ((gx c0.si j43).a), .int .i64 ((gx c0.si j43).b), .int .i64 ((gx c0.si j43).high)]]⟩] drawMixed (by kernel_rfl) nopan (by (repeat (first | exact Sub.refl _ | exact Sub.nil _ | refine Sub.chunk (by repeat (first | exact Pick.here | apply Pick.there | apply Pick.seg)) (by rfl) ?_ | refine Sub.seg (by repeat (first | exact PickSeg.here | exact PickSeg.all | apply PickSeg.there | apply PickSeg.seg)) ?_ | exact Sub.seg0 (by repeat (first | exact PickSeg.here | exact PickSeg.all | apply PickSeg.there | apply PickSeg.seg)) | apply Sub.assoc))) ?_
                    refine kt_d rfl rfl rfl (v_fb fa_83_2) ?_
                    refine kt_d rfl rfl rfl (v_ldb Try.isAgg3) ?_
                    refine kt_d rfl rfl rfl (v_fb fa_47_0) ?_
                    refine kt_d rfl rfl rfl (v_ldb Try.isAgg39) ?_
                    refine kt_d rfl rfl rfl (v_fb fa_83_0) ?_
                    refine kt_d rfl rfl rfl (v_ldb Try.isAgg3) ?_
                    refine kt_d rfl rfl rfl (v_ia ej61 nj61 Try.runUnderlying39 Try.sizeOf3) ?_
                    refine kt_d rfl rfl rfl (v_ldf nj61 Try.isAgg3) ?_
                    refine kt_d rfl rfl rfl (v_cmp) ?_
                    refine kt_d rfl rfl rfl (v_mv) ?_
                    refine kt_gv rfl rfl rfl rfl hb62 (v_fb fa_83_2) ?_
                    refine kt_gv rfl rfl rfl rfl hb62 (v_ldb Try.isAgg3) ?_
                    refine kt_gv rfl rfl rfl rfl hb62 (v_fb fa_47_0) ?_
                    refine kt_gv rfl rfl rfl rfl hb62 (v_ldb Try.isAgg39) ?_
                    refine kt_gv rfl rfl rfl rfl hb62 (v_fb fa_83_1) ?_
                    refine kt_gv rfl rfl rfl rfl hb62 (v_ldb Try.isAgg3) ?_
                    refine kt_gv rfl rfl rfl rfl hb62 (v_ia ej63 nj63 Try.runUnderlying39 Try.sizeOf3) ?_
                    refine kt_gv rfl rfl rfl rfl hb62 (v_ldf nj63 Try.isAgg3) ?_
                    refine kt_gv rfl rfl rfl rfl hb62 (v_cmp) ?_
                    refine kt_d rfl rfl rfl (v_pf hb62) ?_
                    refine kt_d rfl rfl rfl (v_mv) ?_
                    refine kt_skip rfl rfl rfl rfl hb64 ?_
                    refine kt_skip rfl rfl rfl rfl hb64 ?_
                    refine kt_skip rfl rfl rfl rfl hb64 ?_
                    refine kt_d rfl rfl rfl (v_pt hb64) ?_
                    refine kt_nil ?_
                    refine kn_then ?_
                    refine kwp_cond_t rfl rfl ?_
                    refine kwp_seq ?_
                    refine kwp_region ?_
                    refine kd (v_as) ?_
                    refine kops_nil ?_
                    refine kn_then ?_
                    refine kwp_ret ?_
                    refine kr_block ?_
                    refine kr_then ?_
                    refine kr_then ?_
                    obtain rfl := e_some h59
                    refine k_out ?_ rfl
                    rintro rfl
                    refine kr_block ?_
                    refine kr_then ?_
                    refine kr_then ?_
                    obtain rfl := e_some g35
                    refine r1 [] ?_
                    exact ⟨rfl, rfl⟩
                  ·
                    replace h59 := e_f h59 hb64
                    refine kwp_tree (.quiet 0 (.quiet 1 (.quiet 2 (.quiet 3 (.quiet 4 (.quiet 5 (.quiet 6 (.quiet 7 (.quiet 8 (.quiet 9 (.quiet 10 (.quiet 11 (.quiet 12 (.quiet 13 (.quiet 14 (.quiet 15 (.quiet 16 (.quiet 17 (.quiet 18 (.quiet 19 (.quiet 20 (.quiet 21 (.quiet 22 (.quiet 23 (.quiet 24 .stop))))))))))))))))))))))))) [] [⟨.pointer (some p1_4), 3, [[.slice c00a c0.fl.length c00c, .slice c01a c0.ar.length c01c, .slice c02a c0.si.length c02c]]⟩, ⟨.pointer (some p7_44), 3, [[.int .i64 ((gx c0.si j43).a), .int .i64 ((gx c0.si j43).b), .int .i64 ((gx c0.si j43).high)]]⟩] drawMixed (by kernel_rfl) nopan (by (repeat (first | exact Sub.refl _ | exact Sub.nil _ | refine Sub.chunk (by repeat (first | exact Pick.here | apply Pick.there | apply Pick.seg)) (by rfl) ?_ | refine Sub.seg (by repeat (first | exact PickSeg.here | exact PickSeg.all | apply PickSeg.there | apply PickSeg.seg)) ?_ | exact Sub.seg0 (by repeat (first | exact PickSeg.here | exact PickSeg.all | apply PickSeg.there | apply PickSeg.seg)) | apply Sub.assoc))) ?_
                    refine kt_d rfl rfl rfl (v_fb fa_83_2) ?_
                    refine kt_d rfl rfl rfl (v_ldb Try.isAgg3) ?_
                    refine kt_d rfl rfl rfl (v_fb fa_47_0) ?_
                    refine kt_d rfl rfl rfl (v_ldb Try.isAgg39) ?_
                    refine kt_d rfl rfl rfl (v_fb fa_83_0) ?_
                    refine kt_d rfl rfl rfl (v_ldb Try.isAgg3) ?_
                    refine kt_d rfl rfl rfl (v_ia ej61 nj61 Try.runUnderlying39 Try.sizeOf3) ?_
                    refine kt_d rfl rfl rfl (v_ldf nj61 Try.isAgg3) ?_
                    refine kt_d rfl rfl rfl (v_cmp) ?_
                    refine kt_d rfl rfl rfl (v_mv) ?_
                    refine kt_gv rfl rfl rfl rfl hb62 (v_fb fa_83_2) ?_
                    refine kt_gv rfl rfl rfl rfl hb62 (v_ldb Try.isAgg3) ?_
                    refine kt_gv rfl rfl rfl rfl hb62 (v_fb fa_47_0) ?_
                    refine kt_gv rfl rfl rfl rfl hb62 (v_ldb Try.isAgg39) ?_
                    refine kt_gv rfl rfl rfl rfl hb62 (v_fb fa_83_1) ?_
                    refine kt_gv rfl rfl rfl rfl hb62 (v_ldb Try.isAgg3) ?_
                    refine kt_gv rfl rfl rfl rfl hb62 (v_ia ej63 nj63 Try.runUnderlying39 Try.sizeOf3) ?_
                    refine kt_gv rfl rfl rfl rfl hb62 (v_ldf nj63 Try.isAgg3) ?_
                    refine kt_gv rfl rfl rfl rfl hb62 (v_cmp) ?_
                    refine kt_d rfl rfl rfl (v_pf hb62) ?_
                    refine kt_d rfl rfl rfl (v_mv) ?_
                    refine kt_gv rfl rfl rfl rfl hb64 (v_fb fa_83_2) ?_
                    refine kt_gv rfl rfl rfl rfl hb64 (v_ldb Try.isAgg3) ?_
                    refine kt_gv rfl rfl rfl rfl hb64 (v_cmp) ?_
                    refine kt_d rfl rfl rfl (v_pf hb64) ?_
                    refine kt_nil ?_
                    refine kn_then ?_
                    refine kwp_cond rfl (fun hc65 => ?_) (fun hc65 => ?_)
                    ·
                      replace h59 := e_t h59 hc65
                      refine kwp_seq ?_
                      refine kwp_region ?_
                      refine kd (v_as) ?_
                      refine kops_nil ?_
                      refine kn_then ?_
                      refine kwp_ret ?_
                      refine kr_block ?_
                      refine kr_then ?_
                      refine kr_then ?_
                      obtain rfl := e_some h59
                      refine k_out ?_ rfl
                      rintro rfl
                      refine kr_block ?_
                      refine kr_then ?_
                      refine kr_then ?_
                      obtain rfl := e_some g35
                      refine r1 [] ?_
                      exact ⟨rfl, rfl⟩
                    ·
                      replace h59 := e_f h59 hc65
                      refine kwp_skip ?_
                      refine kn_block ?_
                      refine kn_then ?_
                      refine kwp_region ?_
                      refine kd (v_add) ?_
                      refine kd (v_mv) ?_
                      refine kops_nil ?_
                      refine kn_then ?_
                      obtain rfl := e_some h59
                      exact ⟨_, (), rfl, hd_mk trivial⟩
          ·
            replace h39 := e_f h39 hc42
            refine kwp_exit ?_
            refine ke_then ?_
            obtain rfl := e_some h39
            refine k_out ?_ rfl
            rintro rfl
            refine ke_block ?_
            exact ⟨_, (), rfl, hd_mk trivial⟩
        · intro z66 y67 _ h68
          refine kn_then ?_
          refine kwp_seq ?_
          refine kwp_region ?_
          refine kd (v_as) ?_
          refine kops_nil ?_
          refine kn_then ?_
          refine kwp_ret ?_
          obtain rfl := e_some h68
          refine r1 [] ?_
          exact ⟨rfl, rfl⟩

set_option maxRecDepth 20000 in
set_option maxHeartbeats 2000000 in
theorem w_spec_CaveValid (c00a : Option Addr) (c00n : Nat) (c00c : Nat) (c01a : Option Addr) (c01n : Nat) (c01c : Nat) (c02a : Option Addr) (c02n : Nat) (c02c : Nat) {c0 : Cave} {r : Bool} (h : p_spec_CaveValid c0 = some r) :
    Triple Try.prog 24 [.agg #[.slice c00a c00n c00c, .slice c01a c01n c01c, .slice c02a c02n c02c]] [⟨.slice c00a c00n c00c, 1, c0.fl.map encI⟩, ⟨.slice c01a c01n c01c, 1, c0.ar.map encI⟩, ⟨.slice c02a c02n c02c, 3, c0.si.map encSill⟩] [] (fun v ch => v = .bool r ∧ ch = []) := by
  refine triple_start 105 Try.func24 Try.ntmps24 rfl rfl (fun w0 => ?_)
  refine k_len (c := c00c) (fun hl1 => ?_)
  subst hl1
  refine k_len (c := c01c) (fun hl2 => ?_)
  subst hl2
  refine k_len (c := c02c) (fun hl3 => ?_)
  subst hl3
  unfold p_spec_CaveValid at h
  refine kwp_seq ?_
  refine kwp_region ?_
  refine kk (n_box (e := [.slice c00a c0.fl.length c00c, .slice c01a c0.ar.length c01c, .slice c02a c0.si.length c02c]) 3 (fun p1_4 => ?_))
  refine kd (v_as) ?_
  refine kops_nil ?_
  refine kn_then ?_
  refine kwp_seq ?_
  refine kwp_seq ?_
  refine kwp_cutE (inv := [(1, .pointer (some p1_4))]) (fun (z : Bool) (y : Unit) => [(25, .bool z)]) (fun (z : Bool) (y : Unit) => [⟨.pointer (some p1_4), 3, [[.slice c00a c0.fl.length c00c, .slice c01a c0.ar.length c01c, .slice c02a c0.si.length c02c]]⟩]) (fun _ _ => True) h ?_ ?_
  · intro t8 h6
    refine kwp_region ?_
    refine kd (v_fb fa_47_0) ?_
    refine kd (v_ldb Try.isAgg39) ?_
    refine kd (v_len Try.runUnderlying39) ?_
    obtain ⟨v10, hv9, h6⟩ := e_bind h6
    refine kk (n_call Try.call56 (w_spec_l1In hv9) ?_)
    rintro _ _ ⟨rfl, rfl⟩
    refine kd (v_not) ?_
    refine kd (v_mv) ?_
    refine kops_split 11 rfl (fun hb12 => ?_) (fun hb12 => ?_)
    ·
      replace h6 := e_t h6 hb12
      refine kskip hb12 ?_
      refine kskip hb12 ?_
      refine kskip hb12 ?_
      refine kskip hb12 ?_
      refine kskip hb12 ?_
      refine kskip hb12 ?_
      refine kskip hb12 ?_
      refine kd (v_pt hb12) ?_
      refine kd (v_mv) ?_
      refine kskip rfl ?_
      refine kskip rfl ?_
      refine kskip rfl ?_
      refine kskip rfl ?_
      refine kd (v_pt rfl) ?_
      refine kops_nil ?_
      refine kn_then ?_
      obtain rfl := e_some h6
      exact ⟨(), hd_mk trivial⟩
    ·
      replace h6 := e_f h6 hb12
      refine kgd hb12 (v_fb fa_47_1) ?_
      refine kgd hb12 (v_ldb Try.isAgg39) ?_
      refine kgd hb12 (v_len Try.runUnderlying39) ?_
      refine kgd hb12 (v_fb fa_47_0) ?_
      refine kgd hb12 (v_ldb Try.isAgg39) ?_
      refine kgd hb12 (v_len Try.runUnderlying39) ?_
      refine kgd hb12 (v_cmp) ?_
      refine kd (v_pf hb12) ?_
      refine kd (v_mv) ?_
      refine kops_split 20 rfl (fun hb13 => ?_) (fun hb13 => ?_)
      ·
        replace h6 := e_t h6 hb13
        refine kskip hb13 ?_
        refine kskip hb13 ?_
        refine kskip hb13 ?_
        refine kskip hb13 ?_
        refine kd (v_pt hb13) ?_
        refine kops_nil ?_
        refine kn_then ?_
        obtain rfl := e_some h6
        exact ⟨(), hd_mk trivial⟩
      ·
        replace h6 := e_f h6 hb13
        refine kgd hb13 (v_fb fa_47_2) ?_
        refine kgd hb13 (v_ldb Try.isAgg45) ?_
        refine kgd hb13 (v_len Try.runUnderlying45) ?_
        refine kgd hb13 (v_cmp) ?_
        refine kd (v_pf hb13) ?_
        refine kops_nil ?_
        refine kn_then ?_
        obtain rfl := e_some h6
        exact ⟨(), hd_mk trivial⟩
  · intro x5 y15 _ h16
    refine kn_then ?_
    refine kwp_cond rfl (fun hc17 => ?_) (fun hc17 => ?_)
    ·
      replace h16 := e_t h16 hc17
      refine kwp_seq ?_
      refine kwp_region ?_
      refine kd (v_as) ?_
      refine kops_nil ?_
      refine kn_then ?_
      refine kwp_ret ?_
      refine kr_then ?_
      obtain rfl := e_some h16
      refine r1 [] ?_
      exact ⟨rfl, rfl⟩
    ·
      replace h16 := e_f h16 hc17
      refine kwp_skip ?_
      refine kn_then ?_
      refine kwp_seq ?_
      refine kwp_seq ?_
      refine kwp_region ?_
      refine kd (v_as) ?_
      refine kops_nil ?_
      refine kn_then ?_
      refine kwp_cutO (inv := [(1, .pointer (some p1_4))]) (fun (z : Unit) (y : Unit) => []) (fun (z : Unit) (y : Unit) => [⟨.pointer (some p1_4), 3, [[.slice c00a c0.fl.length c00c, .slice c01a c0.ar.length c01c, .slice c02a c0.si.length c02c]]⟩]) (fun _ _ => True) h16 ?_ ?_
      · intro t20 h18 g19
        refine kwp_block ?_
        refine kwp_loopE (inv := [(1, .pointer (some p1_4))]) (fun (z : Int) (y : Unit) => [(3, .int .i64 z)]) (fun (z : Int) (y : Unit) => [⟨.pointer (some p1_4), 3, [[.slice c00a c0.fl.length c00c, .slice c01a c0.ar.length c01c, .slice c02a c0.si.length c02c]]⟩]) (fun _ _ => True) h18 ⟨(), hd_mk trivial⟩ ?_
        intro k21 y25 b22 _ h23
        unfold p_spec_CaveValid_L0 at h23
        refine kwp_seq ?_
        refine kwp_seq ?_
        refine kwp_region ?_
        refine kd (v_mv) ?_
        refine kd (v_fb fa_47_0) ?_
        refine kd (v_ldb Try.isAgg39) ?_
        refine kd (v_len Try.runUnderlying39) ?_
        refine kd (v_cmp) ?_
        refine kops_nil ?_
        refine kn_then ?_
        refine kwp_cond rfl (fun hc26 => ?_) (fun hc26 => ?_)
        ·
          replace h23 := e_t h23 hc26
          refine kwp_skip ?_
          refine kn_then ?_
          refine kwp_seq ?_
          refine kwp_block ?_
          refine kwp_seq ?_
          refine kwp_region ?_
          refine kd (v_fb fa_47_0) ?_
          refine kd (v_ldb Try.isAgg39) ?_
          refine kd (v_mv) ?_
          obtain ⟨j27, ej27, nj27, h23⟩ := e_idx h23
          refine kd (v_ia ej27 nj27 Try.runUnderlying39 Try.sizeOf3) ?_
          refine kd (v_ldf nj27 Try.isAgg3) ?_
          obtain ⟨v29, hv28, h23⟩ := e_bind h23
          refine kk (n_call Try.call56 (w_spec_l1In hv28) ?_)
          rintro _ _ ⟨rfl, rfl⟩
          refine kd (v_not) ?_
          refine kd (v_mv) ?_
          refine kops_split 40 rfl (fun hb31 => ?_) (fun hb31 => ?_)
          ·
            replace h23 := e_t h23 hb31
            refine kskip hb31 ?_
            refine kskip hb31 ?_
            refine kskip hb31 ?_
            refine kskip hb31 ?_
            refine kskip hb31 ?_
            refine kskip hb31 ?_
            refine kskip hb31 ?_
            refine kd (v_pt hb31) ?_
            refine kops_nil ?_
            refine kn_then ?_
            refine kwp_cond_t rfl rfl ?_
            refine kwp_seq ?_
            refine kwp_region ?_
            refine kd (v_as) ?_
            refine kops_nil ?_
            refine kn_then ?_
            refine kwp_ret ?_
            refine kr_block ?_
            refine kr_then ?_
            refine kr_then ?_
            obtain rfl := e_some h23
            refine k_out ?_ rfl
            rintro rfl
            refine kr_block ?_
            refine kr_then ?_
            refine kr_then ?_
            obtain rfl := e_some g19
            refine r1 [] ?_
            exact ⟨rfl, rfl⟩
          ·
            replace h23 := e_f h23 hb31
            refine kgd hb31 (v_fb fa_47_1) ?_
            refine kgd hb31 (v_ldb Try.isAgg39) ?_
            refine kgd hb31 (v_mv) ?_
            obtain ⟨j32, ej32, nj32, h23⟩ := e_idx h23
            refine kgd hb31 (v_ia ej32 nj32 Try.runUnderlying39 Try.sizeOf3) ?_
            refine kgd hb31 (v_ldf nj32 Try.isAgg3) ?_
            obtain ⟨v34, hv33, h23⟩ := e_bind h23
            refine kgk hb31 (n_call Try.call56 (w_spec_l1In hv33) ?_)
            rintro _ _ ⟨rfl, rfl⟩
            refine kgd hb31 (v_not) ?_
            refine kd (v_pf hb31) ?_
            refine kops_nil ?_
            refine kn_then ?_
            refine kwp_cond rfl (fun hc36 => ?_) (fun hc36 => ?_)
            ·
              replace h23 := e_t h23 hc36
              refine kwp_seq ?_
              refine kwp_region ?_
              refine kd (v_as) ?_
              refine kops_nil ?_
              refine kn_then ?_
              refine kwp_ret ?_
              refine kr_block ?_
              refine kr_then ?_
              refine kr_then ?_
              obtain rfl := e_some h23
              refine k_out ?_ rfl
              rintro rfl
              refine kr_block ?_
              refine kr_then ?_
              refine kr_then ?_
              obtain rfl := e_some g19
              refine r1 [] ?_
              exact ⟨rfl, rfl⟩
            ·
              replace h23 := e_f h23 hc36
              refine kwp_skip ?_
              refine kn_block ?_
              refine kn_then ?_
              refine kwp_region ?_
              refine kd (v_mv) ?_
              refine kd (v_add) ?_
              refine kd (v_as) ?_
              refine kops_nil ?_
              refine kn_then ?_
              obtain rfl := e_some h23
              exact ⟨_, (), rfl, hd_mk trivial⟩
        ·
          replace h23 := e_f h23 hc26
          refine kwp_exit ?_
          refine ke_then ?_
          obtain rfl := e_some h23
          refine k_out ?_ rfl
          rintro rfl
          refine ke_block ?_
          exact ⟨_, (), rfl, hd_mk trivial⟩
      · intro z37 y38 _ h39
        refine kn_then ?_
        refine kwp_seq ?_
        refine kwp_seq ?_
        refine kwp_region ?_
        refine kd (v_as) ?_
        refine kops_nil ?_
        refine kn_then ?_
        refine kwp_cutO (inv := []) (fun (z : Unit) (y : Unit) => []) (fun (z : Unit) (y : Unit) => []) (fun _ _ => True) h39 ?_ ?_
        · intro t42 h40 g41
          refine kwp_block ?_
          refine kwp_loopE (inv := [(1, .pointer (some p1_4))]) (fun (z : Int) (y : Unit) => [(4, .int .i64 z)]) (fun (z : Int) (y : Unit) => [⟨.pointer (some p1_4), 3, [[.slice c00a c0.fl.length c00c, .slice c01a c0.ar.length c01c, .slice c02a c0.si.length c02c]]⟩]) (fun _ _ => True) h40 ⟨(), hd_mk trivial⟩ ?_
          intro k43 y47 b44 _ h45
          unfold p_spec_CaveValid_L1 at h45
          refine kwp_seq ?_
          refine kwp_seq ?_
          refine kwp_region ?_
          refine kd (v_mv) ?_
          refine kd (v_fb fa_47_2) ?_
          refine kd (v_ldb Try.isAgg45) ?_
          refine kd (v_len Try.runUnderlying45) ?_
          refine kd (v_cmp) ?_
          refine kops_nil ?_
          refine kn_then ?_
          refine kwp_cond rfl (fun hc48 => ?_) (fun hc48 => ?_)
          ·
            replace h45 := e_t h45 hc48
            refine kwp_skip ?_
            refine kn_then ?_
            refine kwp_seq ?_
            refine kwp_block ?_
            refine kwp_seq ?_
            refine kwp_region ?_
            refine kd (v_fb fa_47_2) ?_
            refine kd (v_ldb Try.isAgg45) ?_
            refine kd (v_mv) ?_
            obtain ⟨j49, ej49, nj49, h45⟩ := e_idx h45
            refine kd (v_ia ej49 nj49 Try.runUnderlying45 Try.sizeOf83) ?_
            refine kd (v_lda (e := [_, _, _]) nj49 Try.isAgg83 Try.sizeOf83) ?_
            refine kk (n_alloc (e := [.int .i64 0, .int .i64 0, .int .i64 0]) 3 Try.zeroValue83 (fun p5_50 => ?_))
            refine kk (s_B (e' := [.int .i64 ((gx c0.si j49).a), .int .i64 ((gx c0.si j49).b), .int .i64 ((gx c0.si j49).high)]) Try.sizeOf83 ?_)
            refine kops_nil ?_
            refine kn_then ?_
            refine kwp_seq ?_
            obtain ⟨v52, hv51, h45⟩ := e_bind h45
            refine sp (!v52) (fun hb54 => ?_) (fun hb54 => ?_)
            ·
              replace h45 := e_t h45 hb54
              refine kwp_tree (.quiet 0 (.quiet 1 (.quiet 2 (.quiet 3 (.quiet 4 (.quiet 5 (.one 6 (.quiet 7 (.quiet 8 (.quiet 9 (.quiet 10 (.quiet 11 (.quiet 12 (.quiet 13 (.quiet 14 (.one 15 (.quiet 16 (.quiet 17 (.quiet 18 (.quiet 19 (.quiet 20 (.quiet 21 (.quiet 22 (.quiet 23 (.quiet 24 (.quiet 25 (.quiet 26 (.quiet 27 (.quiet 28 (.quiet 29 (.quiet 30 (.quiet 31 (.quiet 32 (.quiet 33 (.quiet 34 (.quiet 35 (.quiet 36 (.quiet 37 (.quiet 38 (.quiet 39 (.quiet 40 (.one 41 (.quiet 42 (.quiet 43 .stop)))))))))))))))))))))))))))))))))))))))))))) [] [⟨.pointer (some p1_4), 3, [[.slice c00a c0.fl.length c00c, .slice c01a c0.ar.length c01c, .slice c02a c0.si.length c02c]]⟩, ⟨.pointer (some p5_50), 3, [[.int .i64 ((gx c0.si j49).a), .int .i64 ((gx c0.si j49).b), .int .i64 ((gx c0.si j49).high)]]⟩] drawMixed (by kernel_rfl) nopan (by (repeat (first | exact Sub.refl _ | exact Sub.nil _ | refine Sub.chunk (by repeat (first | exact Pick.here | apply Pick.there | apply Pick.seg)) (by rfl) ?_ | refine Sub.seg (by repeat (first | exact PickSeg.here | exact PickSeg.all | apply PickSeg.there | apply PickSeg.seg)) ?_ | exact Sub.seg0 (by repeat (first | exact PickSeg.here | exact PickSeg.all | apply PickSeg.there | apply PickSeg.seg)) | apply Sub.assoc))) ?_
              refine kt_d rfl rfl rfl (v_fb fa_83_0) ?_
              refine kt_d rfl rfl rfl (v_ldb Try.isAgg3) ?_
              refine kt_d rfl rfl rfl (v_fb fa_47_0) ?_
              refine kt_d rfl rfl rfl (v_ldb Try.isAgg39) ?_
              refine kt_d rfl rfl rfl (v_len Try.runUnderlying39) ?_
              refine kt_d rfl rfl rfl (v_sub) ?_
              refine kt_one ?_
              refine kl_k rfl rfl (n_call Try.call56 (w_spec_l1In hv51) ?_)
              rintro _ _ ⟨rfl, rfl⟩
              refine ⟨.inl (by (repeat (first | exact Sub.refl _ | exact Sub.nil _ | refine Sub.chunk (by repeat (first | exact Pick.here | apply Pick.there | apply Pick.seg)) (by rfl) ?_ | refine Sub.seg (by repeat (first | exact PickSeg.here | exact PickSeg.all | apply PickSeg.there | apply PickSeg.seg)) ?_ | exact Sub.seg0 (by repeat (first | exact PickSeg.here | exact PickSeg.all | apply PickSeg.there | apply PickSeg.seg)) | apply Sub.assoc))), ?_⟩
              refine kt_d rfl rfl rfl (v_not) ?_
              refine kt_d rfl rfl rfl (v_mv) ?_
              refine kt_skip rfl rfl rfl rfl hb54 ?_
              refine kt_skip rfl rfl rfl rfl hb54 ?_
              refine kt_skip rfl rfl rfl rfl hb54 ?_
              refine kt_skip rfl rfl rfl rfl hb54 ?_
              refine kt_skip rfl rfl rfl rfl hb54 ?_
              refine kt_skip rfl rfl rfl rfl hb54 ?_
              refine kt_one ?_
              refine kl_skip rfl rfl rfl rfl hb54 (by (repeat (first | exact Sub.refl _ | exact Sub.nil _ | refine Sub.chunk (by repeat (first | exact Pick.here | apply Pick.there | apply Pick.seg)) (by rfl) ?_ | refine Sub.seg (by repeat (first | exact PickSeg.here | exact PickSeg.all | apply PickSeg.there | apply PickSeg.seg)) ?_ | exact Sub.seg0 (by repeat (first | exact PickSeg.here | exact PickSeg.all | apply PickSeg.there | apply PickSeg.seg)) | apply Sub.assoc))) ?_
              refine kt_skip rfl rfl rfl rfl hb54 ?_
              refine kt_d rfl rfl rfl (v_pt hb54) ?_
              refine kt_d rfl rfl rfl (v_mv) ?_
              refine kt_skip rfl rfl rfl rfl rfl ?_
              refine kt_skip rfl rfl rfl rfl rfl ?_
              refine kt_skip rfl rfl rfl rfl rfl ?_
              refine kt_skip rfl rfl rfl rfl rfl ?_
              refine kt_skip rfl rfl rfl rfl rfl ?_
              refine kt_d rfl rfl rfl (v_pt rfl) ?_
              refine kt_d rfl rfl rfl (v_mv) ?_
              refine kt_skip rfl rfl rfl rfl rfl ?_
              refine kt_skip rfl rfl rfl rfl rfl ?_
              refine kt_skip rfl rfl rfl rfl rfl ?_
              refine kt_skip rfl rfl rfl rfl rfl ?_
              refine kt_skip rfl rfl rfl rfl rfl ?_
              refine kt_skip rfl rfl rfl rfl rfl ?_
              refine kt_skip rfl rfl rfl rfl rfl ?_
              refine kt_skip rfl rfl rfl rfl rfl ?_
              refine kt_skip rfl rfl rfl rfl rfl ?_
              refine kt_skip rfl rfl rfl rfl rfl ?_
              refine kt_skip rfl rfl rfl rfl rfl ?_
              refine kt_skip rfl rfl rfl rfl rfl ?_
              refine kt_skip rfl rfl rfl rfl rfl ?_
              refine kt_skip rfl rfl rfl rfl rfl ?_
              refine kt_skip rfl rfl rfl rfl rfl ?_
              refine kt_one ?_
              refine kl_skip rfl rfl rfl rfl rfl (by (repeat (first | exact Sub.refl _ | exact Sub.nil _ | refine Sub.chunk (by repeat (first | exact Pick.here | apply Pick.there | apply Pick.seg)) (by rfl) ?_ | refine Sub.seg (by repeat (first | exact PickSeg.here | exact PickSeg.all | apply PickSeg.there | apply PickSeg.seg)) ?_ | exact Sub.seg0 (by repeat (first | exact PickSeg.here | exact PickSeg.all | apply PickSeg.there | apply PickSeg.seg)) | apply Sub.assoc))) ?_
              refine kt_skip rfl rfl rfl rfl rfl ?_
              refine kt_d rfl rfl rfl (v_pt rfl) ?_
              refine kt_nil ?_
              refine kn_then ?_
              refine kwp_cond_t rfl rfl ?_
              refine kwp_seq ?_
              refine kwp_region ?_
              refine kd (v_as) ?_
              refine kops_nil ?_
              refine kn_then ?_
              refine kwp_ret ?_
              refine kr_block ?_
              refine kr_then ?_
              refine kr_then ?_
              obtain rfl := e_some h45
              refine k_out ?_ rfl
              rintro rfl
              refine kr_block ?_
              refine kr_then ?_
              refine kr_then ?_
              obtain rfl := e_some g41
              refine r1 [] ?_
              exact ⟨rfl, rfl⟩
            ·
              replace h45 := e_f h45 hb54
              obtain ⟨v56, hv55, h45⟩ := e_bind h45
              refine sp (!v56) (fun hb58 => ?_) (fun hb58 => ?_)
              ·
                replace h45 := e_t h45 hb58
                refine kwp_tree (.quiet 0 (.quiet 1 (.quiet 2 (.quiet 3 (.quiet 4 (.quiet 5 (.one 6 (.quiet 7 (.quiet 8 (.quiet 9 (.quiet 10 (.quiet 11 (.quiet 12 (.quiet 13 (.quiet 14 (.one 15 (.quiet 16 (.quiet 17 (.quiet 18 (.quiet 19 (.quiet 20 (.quiet 21 (.quiet 22 (.quiet 23 (.quiet 24 (.quiet 25 (.quiet 26 (.quiet 27 (.quiet 28 (.quiet 29 (.quiet 30 (.quiet 31 (.quiet 32 (.quiet 33 (.quiet 34 (.quiet 35 (.quiet 36 (.quiet 37 (.quiet 38 (.quiet 39 (.quiet 40 (.one 41 (.quiet 42 (.quiet 43 .stop)))))))))))))))))))))))))))))))))))))))))))) [] [⟨.pointer (some p1_4), 3, [[.slice c00a c0.fl.length c00c, .slice c01a c0.ar.length c01c, .slice c02a c0.si.length c02c]]⟩, ⟨.pointer (some p5_50), 3, [[.int .i64 ((gx c0.si j49).a), .int .i64 ((gx c0.si j49).b), .int .i64 ((gx c0.si j49).high)]]⟩] drawMixed (by kernel_rfl) nopan (by (repeat (first | exact Sub.refl _ | exact Sub.nil _ | refine Sub.chunk (by repeat (first | exact Pick.here | apply Pick.there | apply Pick.seg)) (by rfl) ?_ | refine Sub.seg (by repeat (first | exact PickSeg.here | exact PickSeg.all | apply PickSeg.there | apply PickSeg.seg)) ?_ | exact Sub.seg0 (by repeat (first | exact PickSeg.here | exact PickSeg.all | apply PickSeg.there | apply PickSeg.seg)) | apply Sub.assoc))) ?_
                refine kt_d rfl rfl rfl (v_fb fa_83_0) ?_
                refine kt_d rfl rfl rfl (v_ldb Try.isAgg3) ?_
                refine kt_d rfl rfl rfl (v_fb fa_47_0) ?_
                refine kt_d rfl rfl rfl (v_ldb Try.isAgg39) ?_
                refine kt_d rfl rfl rfl (v_len Try.runUnderlying39) ?_
                refine kt_d rfl rfl rfl (v_sub) ?_
                refine kt_one ?_
                refine kl_k rfl rfl (n_call Try.call56 (w_spec_l1In hv51) ?_)
                rintro _ _ ⟨rfl, rfl⟩
                refine ⟨.inl (by (repeat (first | exact Sub.refl _ | exact Sub.nil _ | refine Sub.chunk (by repeat (first | exact Pick.here | apply Pick.there | apply Pick.seg)) (by rfl) ?_ | refine Sub.seg (by repeat (first | exact PickSeg.here | exact PickSeg.all | apply PickSeg.there | apply PickSeg.seg)) ?_ | exact Sub.seg0 (by repeat (first | exact PickSeg.here | exact PickSeg.all | apply PickSeg.there | apply PickSeg.seg)) | apply Sub.assoc))), ?_⟩
                refine kt_d rfl rfl rfl (v_not) ?_
                refine kt_d rfl rfl rfl (v_mv) ?_
                refine kt_gv rfl rfl rfl rfl hb54 (v_fb fa_83_1) ?_
                refine kt_gv rfl rfl rfl rfl hb54 (v_ldb Try.isAgg3) ?_
                refine kt_gv rfl rfl rfl rfl hb54 (v_fb fa_47_0) ?_
                refine kt_gv rfl rfl rfl rfl hb54 (v_ldb Try.isAgg39) ?_
                refine kt_gv rfl rfl rfl rfl hb54 (v_len Try.runUnderlying39) ?_
                refine kt_gv rfl rfl rfl rfl hb54 (v_sub) ?_
                refine kt_one ?_
                refine kl_gk rfl rfl rfl rfl hb54 (n_call Try.call56 (w_spec_l1In hv55) ?_)
                rintro _ _ ⟨rfl, rfl⟩
                refine ⟨.inl (by (repeat (first | exact Sub.refl _ | exact Sub.nil _ | refine Sub.chunk (by repeat (first | exact Pick.here | apply Pick.there | apply Pick.seg)) (by rfl) ?_ | refine Sub.seg (by repeat (first | exact PickSeg.here | exact PickSeg.all | apply PickSeg.there | apply PickSeg.seg)) ?_ | exact Sub.seg0 (by repeat (first | exact PickSeg.here | exact PickSeg.all | apply PickSeg.there | apply PickSeg.seg)) | apply Sub.assoc))), ?_⟩
                refine kt_gv rfl rfl rfl rfl hb54 (v_not) ?_
                refine kt_d rfl rfl rfl (v_pf hb54) ?_
                refine kt_d rfl rfl rfl (v_mv) ?_
                refine kt_skip rfl rfl rfl rfl hb58 ?_
                refine kt_skip rfl rfl rfl rfl hb58 ?_
                refine kt_skip rfl rfl rfl rfl hb58 ?_
                refine kt_skip rfl rfl rfl rfl hb58 ?_
                refine kt_skip rfl rfl rfl rfl hb58 ?_
                refine kt_d rfl rfl rfl (v_pt hb58) ?_
                refine kt_d rfl rfl rfl (v_mv) ?_
                refine kt_skip rfl rfl rfl rfl rfl ?_
                refine kt_skip rfl rfl rfl rfl rfl ?_
                refine kt_skip rfl rfl rfl rfl rfl ?_
                refine kt_skip rfl rfl rfl rfl rfl ?_
                refine kt_skip rfl rfl rfl rfl rfl ?_
                refine kt_skip rfl rfl rfl rfl rfl ?_
                refine kt_skip rfl rfl rfl rfl rfl ?_
                refine kt_skip rfl rfl rfl rfl rfl ?_
                refine kt_skip rfl rfl rfl rfl rfl ?_
                refine kt_skip rfl rfl rfl rfl rfl ?_
                refine kt_skip rfl rfl rfl rfl rfl ?_
                refine kt_skip rfl rfl rfl rfl rfl ?_
                refine kt_skip rfl rfl rfl rfl rfl ?_
                refine kt_skip rfl rfl rfl rfl rfl ?_
                refine kt_skip rfl rfl rfl rfl rfl ?_
                refine kt_one ?_
                refine kl_skip rfl rfl rfl rfl rfl (by (repeat (first | exact Sub.refl _ | exact Sub.nil _ | refine Sub.chunk (by repeat (first | exact Pick.here | apply Pick.there | apply Pick.seg)) (by rfl) ?_ | refine Sub.seg (by repeat (first | exact PickSeg.here | exact PickSeg.all | apply PickSeg.there | apply PickSeg.seg)) ?_ | exact Sub.seg0 (by repeat (first | exact PickSeg.here | exact PickSeg.all | apply PickSeg.there | apply PickSeg.seg)) | apply Sub.assoc))) ?_
                refine kt_skip rfl rfl rfl rfl rfl ?_
                refine kt_d rfl rfl rfl (v_pt rfl) ?_
                refine kt_nil ?_
                refine kn_then ?_
                refine kwp_cond_t rfl rfl ?_
                refine kwp_seq ?_
                refine kwp_region ?_
                refine kd (v_as) ?_
                refine kops_nil ?_
                refine kn_then ?_
                refine kwp_ret ?_
                refine kr_block ?_
                refine kr_then ?_
                refine kr_then ?_
                obtain rfl := e_some h45
                refine k_out ?_ rfl
                rintro rfl
                refine kr_block ?_
                refine kr_then ?_
                refine kr_then ?_
                obtain rfl := e_some g41
                refine r1 [] ?_
                exact ⟨rfl, rfl⟩
              ·
                replace h45 := e_f h45 hb58
                refine sp (((gx c0.si j49).a) == ((gx c0.si j49).b)) (fun hb59 => ?_) (fun hb59 => ?_)
                ·
                  replace h45 := e_t h45 hb59
                  refine kwp_tree (.quiet 0 (.quiet 1 (.quiet 2 (.quiet 3 (.quiet 4 (.quiet 5 (.one 6 (.quiet 7 (.quiet 8 (.quiet 9 (.quiet 10 (.quiet 11 (.quiet 12 (.quiet 13 (.quiet 14 (.one 15 (.quiet 16 (.quiet 17 (.quiet 18 (.quiet 19 (.quiet 20 (.quiet 21 (.quiet 22 (.quiet 23 (.quiet 24 (.quiet 25 (.quiet 26 (.quiet 27 (.quiet 28 (.quiet 29 (.quiet 30 (.quiet 31 (.quiet 32 (.quiet 33 (.quiet 34 (.quiet 35 (.quiet 36 (.quiet 37 (.quiet 38 (.quiet 39 (.quiet 40 (.one 41 (.quiet 42 (.quiet 43 .stop)))))))))))))))))))))))))))))))))))))))))))) [] [⟨.pointer (some p1_4), 3, [[.slice c00a c0.fl.length c00c, .slice c01a c0.ar.length c01c, .slice c02a c0.si.length c02c]]⟩, ⟨.pointer (some p5_50), 3, [[.int .i64 ((gx c0.si j49).a), .int .i64 ((gx c0.si j49).b), .int .i64 ((gx c0.si j49).high)]]⟩] drawMixed (by kernel_rfl) nopan (by (repeat (first | exact Sub.refl _ | exact Sub.nil _ | refine Sub.chunk (by repeat (first | exact Pick.here | apply Pick.there | apply Pick.seg)) (by rfl) ?_ | refine Sub.seg (by repeat (first | exact PickSeg.here | exact PickSeg.all | apply PickSeg.there | apply PickSeg.seg)) ?_ | exact Sub.seg0 (by repeat (first | exact PickSeg.here | exact PickSeg.all | apply PickSeg.there | apply PickSeg.seg)) | apply Sub.assoc))) ?_
                  refine kt_d rfl rfl rfl (v_fb fa_83_0) ?_
                  refine kt_d rfl rfl rfl (v_ldb Try.isAgg3) ?_
                  refine kt_d rfl rfl rfl (v_fb fa_47_0) ?_
                  refine kt_d rfl rfl rfl (v_ldb Try.isAgg39) ?_
                  refine kt_d rfl rfl rfl (v_len Try.runUnderlying39) ?_
                  refine kt_d rfl rfl rfl (v_sub) ?_
                  refine kt_one ?_
                  refine kl_k rfl rfl (n_call Try.call56 (w_spec_l1In hv51) ?_)
                  rintro _ _ ⟨rfl, rfl⟩
                  refine ⟨.inl (by (repeat (first | exact Sub.refl _ | exact Sub.nil _ | refine Sub.chunk (by repeat (first | exact Pick.here | apply Pick.there | apply Pick.seg)) (by rfl) ?_ | refine Sub.seg (by repeat (first | exact PickSeg.here | exact PickSeg.all | apply PickSeg.there | apply PickSeg.seg)) ?_ | exact Sub.seg0 (by repeat (first | exact PickSeg.here | exact PickSeg.all | apply PickSeg.there | apply PickSeg.seg)) | apply Sub.assoc))), ?_⟩
                  refine kt_d rfl rfl rfl (v_not) ?_
                  refine kt_d rfl rfl rfl (v_mv) ?_
                  refine kt_gv rfl rfl rfl rfl hb54 (v_fb fa_83_1) ?_
                  refine kt_gv rfl rfl rfl rfl hb54 (v_ldb Try.isAgg3) ?_
                  refine kt_gv rfl rfl rfl rfl hb54 (v_fb fa_47_0) ?_
                  refine kt_gv rfl rfl rfl rfl hb54 (v_ldb Try.isAgg39) ?_
                  refine kt_gv rfl rfl rfl rfl hb54 (v_len Try.runUnderlying39) ?_
                  refine kt_gv rfl rfl rfl rfl hb54 (v_sub) ?_
                  refine kt_one ?_
                  refine kl_gk rfl rfl rfl rfl hb54 (n_call Try.call56 (w_spec_l1In hv55) ?_)
                  rintro _ _ ⟨rfl, rfl⟩
                  refine ⟨.inl (by (repeat (first | exact Sub.refl _ | exact Sub.nil _ | refine Sub.chunk (by repeat (first | exact Pick.here | apply Pick.there | apply Pick.seg)) (by rfl) ?_ | refine Sub.seg (by repeat (first | exact PickSeg.here | exact PickSeg.all | apply PickSeg.there | apply PickSeg.seg)) ?_ | exact Sub.seg0 (by repeat (first | exact PickSeg.here | exact PickSeg.all | apply PickSeg.there | apply PickSeg.seg)) | apply Sub.assoc))), ?_⟩
                  refine kt_gv rfl rfl rfl rfl hb54 (v_not) ?_
                  refine kt_d rfl rfl rfl (v_pf hb54) ?_
                  refine kt_d rfl rfl rfl (v_mv) ?_
                  refine kt_gv rfl rfl rfl rfl hb58 (v_fb fa_83_0) ?_
                  refine kt_gv rfl rfl rfl rfl hb58 (v_ldb Try.isAgg3) ?_
                  refine kt_gv rfl rfl rfl rfl hb58 (v_fb fa_83_1) ?_
                  refine kt_gv rfl rfl rfl rfl hb58 (v_ldb Try.isAgg3) ?_
                  refine kt_gv rfl rfl rfl rfl hb58 (v_cmp) ?_
                  refine kt_d rfl rfl rfl (v_pf hb58) ?_
                  refine kt_d rfl rfl rfl (v_mv) ?_
                  refine kt_skip rfl rfl rfl rfl hb59 ?_
                  refine kt_skip rfl rfl rfl rfl hb59 ?_
                  refine kt_skip rfl rfl rfl rfl hb59 ?_
                  refine kt_skip rfl rfl rfl rfl hb59 ?_
                  refine kt_skip rfl rfl rfl rfl hb59 ?_
                  refine kt_skip rfl rfl rfl rfl hb59 ?_
                  refine kt_skip rfl rfl rfl rfl hb59 ?_
                  refine kt_skip rfl rfl rfl rfl hb59 ?_
                  refine kt_skip rfl rfl rfl rfl hb59 ?_
                  refine kt_skip rfl rfl rfl rfl hb59 ?_
                  refine kt_skip rfl rfl rfl rfl hb59 ?_
                  refine kt_skip rfl rfl rfl rfl hb59 ?_
                  refine kt_skip rfl rfl rfl rfl hb59 ?_
                  refine kt_skip rfl rfl rfl rfl hb59 ?_
                  refine kt_skip rfl rfl rfl rfl hb59 ?_
                  refine kt_one ?_
                  refine kl_skip rfl rfl rfl rfl hb59 (by (repeat (first | exact Sub.refl _ | exact Sub.nil _ | refine Sub.chunk (by repeat (first | exact Pick.here | apply Pick.there | apply Pick.seg)) (by rfl) ?_ | refine Sub.seg (by repeat (first | exact PickSeg.here | exact PickSeg.all | apply PickSeg.there | apply PickSeg.seg)) ?_ | exact Sub.seg0 (by repeat (first | exact PickSeg.here | exact PickSeg.all | apply PickSeg.there | apply PickSeg.seg)) | apply Sub.assoc))) ?_
                  refine kt_skip rfl rfl rfl rfl hb59 ?_
                  refine kt_d rfl rfl rfl (v_pt hb59) ?_
                  refine kt_nil ?_
                  refine kn_then ?_
                  refine kwp_cond_t rfl rfl ?_
                  refine kwp_seq ?_
                  refine kwp_region ?_
                  refine kd (v_as) ?_
                  refine kops_nil ?_
                  refine kn_then ?_
                  refine kwp_ret ?_
                  refine kr_block ?_
                  refine kr_then ?_
                  refine kr_then ?_
                  obtain rfl := e_some h45
                  refine k_out ?_ rfl
                  rintro rfl
                  refine kr_block ?_
                  refine kr_then ?_
                  refine kr_then ?_
                  obtain rfl := e_some g41
                  refine r1 [] ?_
                  exact ⟨rfl, rfl⟩
                ·
                  replace h45 := e_f h45 hb59
                  obtain ⟨j60, ej60, nj60, h45⟩ := e_idx h45
                  obtain ⟨j61, ej61, nj61, h45⟩ := e_idx h45
                  obtain ⟨v63, hv62, h45⟩ := e_bind h45
                  refine kwp_tree (.quiet 0 (.quiet 1 (.quiet 2 (.quiet 3 (.quiet 4 (.quiet 5 (.one 6 (.quiet 7 (.quiet 8 (.quiet 9 (.quiet 10 (.quiet 11 (.quiet 12 (.quiet 13 (.quiet 14 (.one 15 (.quiet 16 (.quiet 17 (.quiet 18 (.quiet 19 (.quiet 20 (.quiet 21 (.quiet 22 (.quiet 23 (.quiet 24 (.quiet 25 (.quiet 26 (.quiet 27 (.quiet 28 (.quiet 29 (.quiet 30 (.quiet 31 (.quiet 32 (.quiet 33 (.quiet 34 (.quiet 35 (.quiet 36 (.quiet 37 (.quiet 38 (.quiet 39 (.quiet 40 (.one 41 (.quiet 42 (.quiet 43 .stop)))))))))))))))))))))))))))))))))))))))))))) [] [⟨.pointer (some p1_4), 3, [[.slice c00a c0.fl.length c00c, .slice c01a c0.ar.length c01c, .slice c02a c0.si.length c02c]]⟩, ⟨.pointer (some p5_50), 3, [[.int .i64 ((gx c0.si j49).a), .int .i64 ((gx c0.si j49).b), .int .i64 ((gx c0.si j49).high)]]⟩] drawMixed (by kernel_rfl) nopan (by (repeat (first | exact Sub.refl _ | exact Sub.nil _ | refine Sub.chunk (by repeat (first | exact Pick.here | apply Pick.there | apply Pick.seg)) (by rfl) ?_ | refine Sub.seg (by repeat (first | exact PickSeg.here | exact PickSeg.all | apply PickSeg.there | apply PickSeg.seg)) ?_ | exact Sub.seg0 (by repeat (first | exact PickSeg.here | exact PickSeg.all | apply PickSeg.there | apply PickSeg.seg)) | apply Sub.assoc))) ?_
                  refine kt_d rfl rfl rfl (v_fb fa_83_0) ?_
                  refine kt_d rfl rfl rfl (v_ldb Try.isAgg3) ?_
                  refine kt_d rfl rfl rfl (v_fb fa_47_0) ?_
                  refine kt_d rfl rfl rfl (v_ldb Try.isAgg39) ?_
                  refine kt_d rfl rfl rfl (v_len Try.runUnderlying39) ?_
                  refine kt_d rfl rfl rfl (v_sub) ?_
                  refine kt_one ?_
                  refine kl_k rfl rfl (n_call Try.call56 (w_spec_l1In hv51) ?_)
                  rintro _ _ ⟨rfl, rfl⟩
                  refine ⟨.inl (by (repeat (first | exact Sub.refl _ | exact Sub.nil _ | refine Sub.chunk (by repeat (first | exact Pick.here | apply Pick.there | apply Pick.seg)) (by rfl) ?_ | refine Sub.seg (by repeat (first | exact PickSeg.here | exact PickSeg.all | apply PickSeg.there | apply PickSeg.seg)) ?_ | exact Sub.seg0 (by repeat (first | exact PickSeg.here | exact PickSeg.all | apply PickSeg.there | apply PickSeg.seg)) | apply Sub.assoc))), ?_⟩
                  refine kt_d rfl rfl rfl (v_not) ?_
                  refine kt_d rfl rfl rfl (v_mv) ?_
                  refine kt_gv rfl rfl rfl rfl hb54 (v_fb fa_83_1) ?_
                  refine kt_gv rfl rfl rfl rfl hb54 (v_ldb Try.isAgg3) ?_
                  refine kt_gv rfl rfl rfl rfl hb54 (v_fb fa_47_0) ?_
                  refine kt_gv rfl rfl rfl rfl hb54 (v_ldb Try.isAgg39) ?_
                  refine kt_gv rfl rfl rfl rfl hb54 (v_len Try.runUnderlying39) ?_
                  refine kt_gv rfl rfl rfl rfl hb54 (v_sub) ?_
                  refine kt_one ?_
                  refine kl_gk rfl rfl rfl rfl hb54 (n_call Try.call56 (w_spec_l1In hv55) ?_)
                  rintro _ _ ⟨rfl, rfl⟩
                  refine ⟨.inl (by (repeat (first | exact Sub.refl _ | exact Sub.nil _ | refine Sub.chunk (by repeat (first | exact Pick.here | apply Pick.there | apply Pick.seg)) (by rfl) ?_ | refine Sub.seg (by repeat (first | exact PickSeg.here | exact PickSeg.all | apply PickSeg.there | apply PickSeg.seg)) ?_ | exact Sub.seg0 (by repeat (first | exact PickSeg.here | exact PickSeg.all | apply PickSeg.there | apply PickSeg.seg)) | apply Sub.assoc))), ?_⟩
                  refine kt_gv rfl rfl rfl rfl hb54 (v_not) ?_
                  refine kt_d rfl rfl rfl (v_pf hb54) ?_
                  refine kt_d rfl rfl rfl (v_mv) ?_
                  refine kt_gv rfl rfl rfl rfl hb58 (v_fb fa_83_0) ?_
                  refine kt_gv rfl rfl rfl rfl hb58 (v_ldb Try.isAgg3) ?_
                  refine kt_gv rfl rfl rfl rfl hb58 (v_fb fa_83_1) ?_
                  refine kt_gv rfl rfl rfl rfl hb58 (v_ldb Try.isAgg3) ?_
                  refine kt_gv rfl rfl rfl rfl hb58 (v_cmp) ?_
                  refine kt_d rfl rfl rfl (v_pf hb58) ?_
                  refine kt_d rfl rfl rfl (v_mv) ?_
                  refine kt_gv rfl rfl rfl rfl hb59 (v_fb fa_83_2) ?_
                  refine kt_gv rfl rfl rfl rfl hb59 (v_ldb Try.isAgg3) ?_
                  refine kt_gv rfl rfl rfl rfl hb59 (v_fb fa_47_0) ?_
                  refine kt_gv rfl rfl rfl rfl hb59 (v_ldb Try.isAgg39) ?_
                  refine kt_gv rfl rfl rfl rfl hb59 (v_fb fa_83_0) ?_
                  refine kt_gv rfl rfl rfl rfl hb59 (v_ldb Try.isAgg3) ?_
                  refine kt_gv rfl rfl rfl rfl hb59 (v_ia ej60 nj60 Try.runUnderlying39 Try.sizeOf3) ?_
                  refine kt_gv rfl rfl rfl rfl hb59 (v_ldf nj60 Try.isAgg3) ?_
                  refine kt_gv rfl rfl rfl rfl hb59 (v_fb fa_47_0) ?_
                  refine kt_gv rfl rfl rfl rfl hb59 (v_ldb Try.isAgg39) ?_
                  refine kt_gv rfl rfl rfl rfl hb59 (v_fb fa_83_1) ?_
                  refine kt_gv rfl rfl rfl rfl hb59 (v_ldb Try.isAgg3) ?_
                  refine kt_gv rfl rfl rfl rfl hb59 (v_ia ej61 nj61 Try.runUnderlying39 Try.sizeOf3) ?_
                  refine kt_gv rfl rfl rfl rfl hb59 (v_ldf nj61 Try.isAgg3) ?_
                  refine kt_gv rfl rfl rfl rfl hb59 (v_max) ?_
                  refine kt_one ?_
                  refine kl_gk rfl rfl rfl rfl hb59 (n_call Try.call56 (w_spec_l1In hv62) ?_)
                  rintro _ _ ⟨rfl, rfl⟩
                  refine ⟨.inl (by (repeat (first | exact Sub.refl _ | exact Sub.nil _ | refine Sub.chunk (by repeat (first | exact Pick.here | apply Pick.there | apply Pick.seg)) (by rfl) ?_ | refine Sub.seg (by repeat (first | exact PickSeg.here | exact PickSeg.all | apply PickSeg.there | apply PickSeg.seg)) ?_ | exact Sub.seg0 (by repeat (first | exact PickSeg.here | exact PickSeg.all | apply PickSeg.there | apply PickSeg.seg)) | apply Sub.assoc))), ?_⟩
                  refine kt_gv rfl rfl rfl rfl hb59 (v_not) ?_
                  refine kt_d rfl rfl rfl (v_pf hb59) ?_
                  refine kt_nil ?_
                  refine kn_then ?_
                  refine kwp_cond rfl (fun hc65 => ?_) (fun hc65 => ?_)
                  ·
                    replace h45 := e_t h45 hc65
                    refine kwp_seq ?_
                    refine kwp_region ?_
                    refine kd (v_as) ?_
                    refine kops_nil ?_
                    refine kn_then ?_
                    refine kwp_ret ?_
                    refine kr_block ?_
                    refine kr_then ?_
                    refine kr_then ?_
                    obtain rfl := e_some h45
                    refine k_out ?_ rfl
                    rintro rfl
                    refine kr_block ?_
                    refine kr_then ?_
                    refine kr_then ?_
                    obtain rfl := e_some g41
                    refine r1 [] ?_
                    exact ⟨rfl, rfl⟩
                  ·
                    replace h45 := e_f h45 hc65
                    refine kwp_skip ?_
                    refine kn_block ?_
                    refine kn_then ?_
                    refine kwp_region ?_
                    refine kd (v_mv) ?_
                    refine kd (v_add) ?_
                    refine kd (v_as) ?_
                    refine kops_nil ?_
                    refine kn_then ?_
                    obtain rfl := e_some h45
                    exact ⟨_, (), rfl, hd_mk trivial⟩
          ·
            replace h45 := e_f h45 hc48
            refine kwp_exit ?_
            refine ke_then ?_
            obtain rfl := e_some h45
            refine k_out ?_ rfl
            rintro rfl
            refine ke_block ?_
            exact ⟨_, (), rfl, hd_mk trivial⟩
        · intro z66 y67 _ h68
          refine kn_then ?_
          refine kwp_seq ?_
          refine kwp_region ?_
          refine kd (v_as) ?_
          refine kops_nil ?_
          refine kn_then ?_
          refine kwp_ret ?_
          obtain rfl := e_some h68
          refine r1 [] ?_
          exact ⟨rfl, rfl⟩

end Go.Proofs.Ytfgialdcilldiaa
