/- What the plain programs return, the functions of the program return; no condition. -/
import Derived.Test.YtpfijnklnljccaaDoorZQ
import Derived.Test.YtpfijnklnljccaaDoorZFa
import Derived.Test.YtpfijnklnljccaaDoorZVbw
namespace Go.Proofs.YtpfijnklnljccaaDoor
open Go
set_option linter.unusedVariables false
set_option linter.unusedSimpArgs false

set_option maxRecDepth 20000 in
theorem w_impl_ownParts  {many0 : Int} {r : List Int} (h : p_impl_ownParts many0 = some r) :
    Triple Tryd.prog 66 [.int .i64 many0] [] [] (fun v ch => ∃ (w0a : Option Addr) (w0c : Nat), v = .slice w0a r.length w0c ∧ ch = [⟨.slice w0a r.length w0c, 1, r.map encI⟩]) := by
  refine triple_start 18 Tryd.func66 Tryd.ntmps66 rfl rfl (fun w0 => ?_)
  unfold p_impl_ownParts at h
  refine kwp_seq ?_
  refine kwp_region ?_
  refine kops_nilchunk 1 (by decide) ?_
  refine kd (v_as) ?_
  refine kops_nil ?_
  refine kn_then ?_
  refine kwp_seq ?_
  refine kwp_region ?_
  refine kd (v_mv) ?_
  obtain ⟨j1, ej1, nj1, h⟩ := e_sized h
  refine kk (n_make (enc := encI) 0 ej1 nj1 Tryd.underlying46 Tryd.type3 (by decide) (fun a2 => ?_))
  refine kd (v_as) ?_
  refine kops_nil ?_
  refine kn_then ?_
  refine kwp_seq ?_
  refine kwp_seq ?_
  refine kwp_region ?_
  refine kd (v_mv) ?_
  refine kd (v_len Tryd.runUnderlying46) ?_
  refine kd (v_mv) ?_
  refine kops_nil ?_
  refine kn_then ?_
  refine kwp_cutE (inv := [(3, .slice (some a2) j1 j1)]) (fun (z : List Int) (y : Unit) => []) (fun (z : List Int) (y : Unit) => [⟨.slice (some a2) j1 j1, 1, z.map encI⟩]) (fun _ _ => True) h ?_ ?_
  · intro t6 h4
    refine kwp_block ?_
    refine kwp_loopE (inv := [(3, .slice (some a2) j1 j1), (8, .int .i64 ((j1 : Nat) : Int))]) (fun (z : Int × List Int) (y : Unit) => [(9, .int .i64 z.1)]) (fun (z : Int × List Int) (y : Unit) => [⟨.slice (some a2) j1 j1, 1, z.2.map encI⟩]) (fun _ _ => True) h4 ⟨(), hd_mk trivial⟩ ?_
    intro z11 y12 b9 _ h10
    obtain ⟨x7, l8⟩ := z11
    unfold p_impl_ownParts_L0 at h10
    refine kwp_seq ?_
    refine kwp_region ?_
    refine kd (v_cmp) ?_
    refine kops_nil ?_
    refine kn_then ?_
    refine kwp_seq ?_
    refine kwp_cond rfl (fun hc13 => ?_) (fun hc13 => ?_)
    ·
      replace h10 := e_t h10 hc13
      refine kwp_skip ?_
      refine kn_then ?_
      refine kwp_seq ?_
      refine kwp_block ?_
      refine kwp_seq ?_
      refine kwp_region ?_
      refine kd (v_mv) ?_
      refine kd (v_as) ?_
      refine kops_nil ?_
      refine kn_then ?_
      refine kwp_region ?_
      refine kd (v_mv) ?_
      refine kd (v_mv) ?_
      refine kd (v_mv) ?_
      obtain ⟨j14, ej14, nj14, h10⟩ := e_idx h10
      refine kd (v_ia ej14 nj14 Tryd.runUnderlying46 Tryd.sizeOf3) ?_
      refine kk (s_f x7 nj14 Tryd.sizeOf3 ?_)
      refine kops_nil ?_
      refine kn_block ?_
      refine kn_then ?_
      refine kwp_region ?_
      refine kd (v_add) ?_
      refine kd (v_mv) ?_
      refine kops_nil ?_
      refine kn_then ?_
      obtain rfl := e_some h10
      exact ⟨_, (), rfl, hd_mk trivial⟩
    ·
      replace h10 := e_f h10 hc13
      refine kwp_exit ?_
      refine ke_then ?_
      obtain rfl := e_some h10
      refine k_out ?_ rfl
      rintro rfl
      refine ke_block ?_
      exact ⟨(), hd_mk trivial⟩
  · intro l3 y16 _ h17
    refine kn_then ?_
    refine kwp_seq ?_
    refine kwp_region ?_
    refine kd (v_mv) ?_
    refine kd (v_as) ?_
    refine kops_nil ?_
    refine kn_then ?_
    refine k_len (c := j1) (fun hl18 => ?_)
    subst hl18
    refine kwp_ret ?_
    obtain rfl := e_some h17
    refine r1 [⟨.slice (some a2) (l3.length) (l3.length), 1, l3.map encI⟩] ?_
    exact ⟨some a2, (l3.length), rfl, rfl⟩

set_option maxRecDepth 20000 in
theorem w_impl_joinParts (parts0a : Option Addr) (parts0n : Nat) (parts0c : Nat) {parts0 : List Int} {a0 : Int} {b0 : Int} {r : Bool × List Int} (h : p_impl_joinParts parts0 a0 b0 = some r) :
    Triple Tryd.prog 67 [.slice parts0a parts0n parts0c, .int .i64 a0, .int .i64 b0] [] [⟨.slice parts0a parts0n parts0c, 1, parts0.map encI⟩] (fun v ch => v = .bool r.1 ∧ ch = [⟨.slice parts0a parts0n parts0c, 1, r.2.map encI⟩]) := by
  refine triple_start 47 Tryd.func67 Tryd.ntmps67 rfl rfl (fun w0 => ?_)
  refine k_len (c := parts0c) (fun hl1 => ?_)
  subst hl1
  unfold p_impl_joinParts at h
  refine kwp_seq ?_
  refine kwp_region ?_
  refine kd (v_as) ?_
  refine kops_nil ?_
  refine kn_then ?_
  refine kwp_seq ?_
  obtain ⟨j2, ej2, nj2, h⟩ := e_idx h
  obtain ⟨j3, ej3, nj3, h⟩ := e_idx h
  refine kwp_tree (.quiet 0 (.quiet 1 (.quiet 2 (.quiet 3 (.quiet 4 (.quiet 5 (.quiet 6 (.quiet 7 (.quiet 8 (.quiet 9 (.quiet 10 (.quiet 11 (.quiet 12 (.quiet 13 (.quiet 14 (.quiet 15 (.quiet 16 (.quiet 17 (.quiet 18 (.quiet 19 .stop)))))))))))))))))))) [] [⟨.slice parts0a (parts0.length) parts0c, 1, parts0.map encI⟩] drawMixed (by kernel_rfl) nopan (by (repeat (first | exact Sub.refl _ | exact Sub.nil _ | refine Sub.chunk (by repeat (first | exact Pick.here | apply Pick.there | apply Pick.seg)) (by rfl) ?_ | refine Sub.seg (by repeat (first | exact PickSeg.here | exact PickSeg.all | apply PickSeg.there | apply PickSeg.seg)) ?_ | exact Sub.seg0 (by repeat (first | exact PickSeg.here | exact PickSeg.all | apply PickSeg.there | apply PickSeg.seg)) | apply Sub.assoc))) ?_
  refine kt_d rfl rfl rfl (v_mv) ?_
  refine kt_d rfl rfl rfl (v_mv) ?_
  refine kt_d rfl rfl rfl (v_ia ej2 nj2 Tryd.runUnderlying46 Tryd.sizeOf3) ?_
  refine kt_d rfl rfl rfl (v_ldf nj2 Tryd.isAgg3) ?_
  refine kt_d rfl rfl rfl (v_mv) ?_
  refine kt_d rfl rfl rfl (v_mv) ?_
  refine kt_d rfl rfl rfl (v_ia ej3 nj3 Tryd.runUnderlying46 Tryd.sizeOf3) ?_
  refine kt_d rfl rfl rfl (v_ldf nj3 Tryd.isAgg3) ?_
  refine kt_d rfl rfl rfl (v_min) ?_
  refine kt_d rfl rfl rfl (v_mv) ?_
  refine kt_d rfl rfl rfl (v_mv) ?_
  refine kt_d rfl rfl rfl (v_ia ej2 nj2 Tryd.runUnderlying46 Tryd.sizeOf3) ?_
  refine kt_d rfl rfl rfl (v_ldf nj2 Tryd.isAgg3) ?_
  refine kt_d rfl rfl rfl (v_mv) ?_
  refine kt_d rfl rfl rfl (v_mv) ?_
  refine kt_d rfl rfl rfl (v_ia ej3 nj3 Tryd.runUnderlying46 Tryd.sizeOf3) ?_
  refine kt_d rfl rfl rfl (v_ldf nj3 Tryd.isAgg3) ?_
  refine kt_d rfl rfl rfl (v_max) ?_
  refine kt_d rfl rfl rfl (v_as) ?_
  refine kt_d rfl rfl rfl (v_as) ?_
  refine kt_nil ?_
  refine kn_then ?_
  refine kwp_seq ?_
  refine kwp_seq ?_
  refine kwp_region ?_
  refine kd (v_mv) ?_
  refine kd (v_mv) ?_
  refine kd (v_cmp) ?_
  refine kops_nil ?_
  refine kn_then ?_
  refine kwp_cond rfl (fun hc4 => ?_) (fun hc4 => ?_)
  ·
    replace h := e_t h hc4
    refine kwp_seq ?_
    refine kwp_region ?_
    refine kd (v_as) ?_
    refine kops_nil ?_
    refine kn_then ?_
    refine kwp_ret ?_
    refine kr_then ?_
    obtain rfl := e_some h
    refine r1 [⟨.slice parts0a (parts0.length) parts0c, 1, parts0.map encI⟩] ?_
    exact ⟨rfl, rfl⟩
  ·
    replace h := e_f h hc4
    refine kwp_skip ?_
    refine kn_then ?_
    refine kwp_seq ?_
    refine kwp_seq ?_
    refine kwp_region ?_
    refine kd (v_mv) ?_
    refine kd (v_len Tryd.runUnderlying46) ?_
    refine kd (v_mv) ?_
    refine kops_nil ?_
    refine kn_then ?_
    refine kwp_cutE (inv := []) (fun (z : List Int) (y : Unit) => []) (fun (z : List Int) (y : Unit) => [⟨.slice parts0a (parts0.length) parts0c, 1, z.map encI⟩]) (fun _ _ => True) h ?_ ?_
    · intro t8 h6
      refine kwp_block ?_
      refine kwp_loopE (inv := [(0, .slice parts0a parts0.length parts0c), (7, .int .i64 (min (gx parts0 j2) (gx parts0 j3))), (8, .int .i64 (max (gx parts0 j2) (gx parts0 j3))), (32, .slice parts0a parts0.length parts0c), (33, .int .i64 ((parts0.length : Nat) : Int))]) (fun (z : Int × List Int) (y : Unit) => [(34, .int .i64 z.1)]) (fun (z : Int × List Int) (y : Unit) => [⟨.slice parts0a (parts0.length) parts0c, 1, z.2.map encI⟩]) (fun _ _ => True) h6 ⟨(), hd_mk trivial⟩ ?_
      intro z13 y14 b11 _ h12
      obtain ⟨x9, l10⟩ := z13
      unfold p_impl_joinParts_L0 at h12
      refine kwp_seq ?_
      refine kwp_region ?_
      refine kd (v_cmp) ?_
      refine kops_nil ?_
      refine kn_then ?_
      refine kwp_seq ?_
      refine kwp_cond rfl (fun hc15 => ?_) (fun hc15 => ?_)
      ·
        replace h12 := e_t h12 hc15
        refine kwp_skip ?_
        refine kn_then ?_
        refine kwp_seq ?_
        refine kwp_block ?_
        refine kwp_seq ?_
        refine kwp_region ?_
        refine kd (v_mv) ?_
        obtain ⟨j16, ej16, nj16, h12⟩ := e_idx h12
        refine kd (v_ia ej16 nj16 Tryd.runUnderlying46 Tryd.sizeOf3) ?_
        refine kd (v_ldf nj16 Tryd.isAgg3) ?_
        refine kd (v_as) ?_
        refine kd (v_as) ?_
        refine kops_nil ?_
        refine kn_then ?_
        refine kwp_seq ?_
        refine kwp_region ?_
        refine kd (v_mv) ?_
        refine kd (v_mv) ?_
        refine kd (v_cmp) ?_
        refine kops_nil ?_
        refine kn_then ?_
        refine kwp_cond rfl (fun hc17 => ?_) (fun hc17 => ?_)
        ·
          replace h12 := e_t h12 hc17
          refine kwp_region ?_
          refine kd (v_mv) ?_
          refine kd (v_mv) ?_
          refine kd (v_mv) ?_
          refine kd (v_ia ej16 nj16 Tryd.runUnderlying46 Tryd.sizeOf3) ?_
          refine kk (s_f (min (gx parts0 j2) (gx parts0 j3)) nj16 Tryd.sizeOf3 ?_)
          refine kops_nil ?_
          refine kn_block ?_
          refine kn_then ?_
          refine kwp_region ?_
          refine kd (v_add) ?_
          refine kd (v_mv) ?_
          refine kops_nil ?_
          refine kn_then ?_
          obtain rfl := e_some h12
          exact ⟨_, (), rfl, hd_mk trivial⟩
        ·
          replace h12 := e_f h12 hc17
          refine kwp_skip ?_
          refine kn_block ?_
          refine kn_then ?_
          refine kwp_region ?_
          refine kd (v_add) ?_
          refine kd (v_mv) ?_
          refine kops_nil ?_
          refine kn_then ?_
          obtain rfl := e_some h12
          exact ⟨_, (), rfl, hd_mk trivial⟩
      ·
        replace h12 := e_f h12 hc15
        refine kwp_exit ?_
        refine ke_then ?_
        obtain rfl := e_some h12
        refine k_out ?_ rfl
        rintro rfl
        refine ke_block ?_
        exact ⟨(), hd_mk trivial⟩
    · intro l5 y19 _ h20
      refine kn_then ?_
      refine kwp_seq ?_
      refine kwp_region ?_
      refine kd (v_as) ?_
      refine kops_nil ?_
      refine kn_then ?_
      refine kwp_ret ?_
      obtain rfl := e_some h20
      refine r1 [⟨.slice parts0a (parts0.length) parts0c, 1, l5.map encI⟩] ?_
      exact ⟨rfl, rfl⟩

set_option maxRecDepth 20000 in
theorem w_impl_countParts (parts0a : Option Addr) (parts0n : Nat) (parts0c : Nat) {parts0 : List Int} {r : Int} (h : p_impl_countParts parts0 = some r) :
    Triple Tryd.prog 68 [.slice parts0a parts0n parts0c] [⟨.slice parts0a parts0n parts0c, 1, parts0.map encI⟩] [] (fun v ch => v = .int .i64 r ∧ ch = []) := by
  refine triple_start 20 Tryd.func68 Tryd.ntmps68 rfl rfl (fun w0 => ?_)
  refine k_len (c := parts0c) (fun hl1 => ?_)
  subst hl1
  unfold p_impl_countParts at h
  refine kwp_seq ?_
  refine kwp_region ?_
  refine kd (v_as) ?_
  refine kops_nil ?_
  refine kn_then ?_
  refine kwp_seq ?_
  refine kwp_region ?_
  refine kd (v_as) ?_
  refine kops_nil ?_
  refine kn_then ?_
  refine kwp_seq ?_
  refine kwp_seq ?_
  refine kwp_region ?_
  refine kd (v_mv) ?_
  refine kd (v_len Tryd.runUnderlying46) ?_
  refine kd (v_mv) ?_
  refine kops_nil ?_
  refine kn_then ?_
  refine kwp_cutE (inv := []) (fun (z : Int) (y : Unit) => [(3, .int .i64 z)]) (fun (z : Int) (y : Unit) => []) (fun _ _ => True) h ?_ ?_
  · intro t5 h3
    refine kwp_block ?_
    refine kwp_loopE (inv := [(6, .slice parts0a parts0.length parts0c), (7, .int .i64 ((parts0.length : Nat) : Int))]) (fun (z : Int × Int) (y : Unit) => [(3, .int .i64 z.1), (8, .int .i64 z.2)]) (fun (z : Int × Int) (y : Unit) => []) (fun _ _ => True) h3 ⟨(), hd_mk trivial⟩ ?_
    intro z10 y11 b8 _ h9
    obtain ⟨many6, x7⟩ := z10
    unfold p_impl_countParts_L0 at h9
    refine kwp_seq ?_
    refine kwp_region ?_
    refine kd (v_cmp) ?_
    refine kops_nil ?_
    refine kn_then ?_
    refine kwp_seq ?_
    refine kwp_cond rfl (fun hc12 => ?_) (fun hc12 => ?_)
    ·
      replace h9 := e_t h9 hc12
      refine kwp_skip ?_
      refine kn_then ?_
      refine kwp_seq ?_
      refine kwp_block ?_
      refine kwp_seq ?_
      refine kwp_region ?_
      refine kd (v_mv) ?_
      obtain ⟨j13, ej13, nj13, h9⟩ := e_idx h9
      refine kd (v_ia ej13 nj13 Tryd.runUnderlying46 Tryd.sizeOf3) ?_
      refine kd (v_ldf nj13 Tryd.isAgg3) ?_
      refine kd (v_as) ?_
      refine kd (v_as) ?_
      refine kops_nil ?_
      refine kn_then ?_
      refine kwp_seq ?_
      refine kwp_region ?_
      refine kd (v_mv) ?_
      refine kd (v_mv) ?_
      refine kd (v_cmp) ?_
      refine kops_nil ?_
      refine kn_then ?_
      refine kwp_cond rfl (fun hc14 => ?_) (fun hc14 => ?_)
      ·
        replace h9 := e_t h9 hc14
        refine kwp_region ?_
        refine kd (v_mv) ?_
        refine kd (v_add) ?_
        refine kd (v_as) ?_
        refine kops_nil ?_
        refine kn_block ?_
        refine kn_then ?_
        refine kwp_region ?_
        refine kd (v_add) ?_
        refine kd (v_mv) ?_
        refine kops_nil ?_
        refine kn_then ?_
        obtain rfl := e_some h9
        exact ⟨_, (), rfl, hd_mk trivial⟩
      ·
        replace h9 := e_f h9 hc14
        refine kwp_skip ?_
        refine kn_block ?_
        refine kn_then ?_
        refine kwp_region ?_
        refine kd (v_add) ?_
        refine kd (v_mv) ?_
        refine kops_nil ?_
        refine kn_then ?_
        obtain rfl := e_some h9
        exact ⟨_, (), rfl, hd_mk trivial⟩
    ·
      replace h9 := e_f h9 hc12
      refine kwp_exit ?_
      refine ke_then ?_
      obtain rfl := e_some h9
      refine k_out ?_ rfl
      rintro rfl
      refine ke_block ?_
      exact ⟨(), hd_mk trivial⟩
  · intro many2 y16 _ h17
    refine kn_then ?_
    refine kwp_seq ?_
    refine kwp_region ?_
    refine kd (v_mv) ?_
    refine kd (v_as) ?_
    refine kops_nil ?_
    refine kn_then ?_
    refine kwp_ret ?_
    obtain rfl := e_some h17
    refine r1 [] ?_
    exact ⟨rfl, rfl⟩

set_option maxRecDepth 20000 in
theorem w_impl_AirLinked (m01a : Option Addr) (m01n : Nat) (m01c : Nat) {m0 : Mine} {r : Bool} (h : p_impl_AirLinked m0 = some r) :
    Triple Tryd.prog 26 [.agg #[.int .i64 m0.p, .slice m01a m01n m01c]] [⟨.slice m01a m01n m01c, 3, m0.aw.map encAirway⟩] [] (fun v ch => v = .bool r ∧ ch = []) := by
  refine triple_start 29 Tryd.func26 Tryd.ntmps26 rfl rfl (fun w0 => ?_)
  refine k_len (c := m01c) (fun hl1 => ?_)
  subst hl1
  unfold p_impl_AirLinked at h
  refine kwp_seq ?_
  refine kwp_region ?_
  refine kk (n_box (e := [.int .i64 m0.p, .slice m01a m0.aw.length m01c]) 2 (fun p1_2 => ?_))
  refine kd (v_as) ?_
  refine kops_nil ?_
  refine kn_then ?_
  refine kwp_seq ?_
  refine kwp_seq ?_
  refine kwp_region ?_
  refine kd (v_ldB Tryd.isAgg32 Tryd.sizeOf32) ?_
  obtain ⟨v4, hv3, h⟩ := e_bind h
  refine kk (n_call Tryd.call20 (w_impl_MineValid m01a m0.aw.length m01c hv3) ?_)
  rintro _ _ ⟨rfl, rfl⟩
  refine kd (v_not) ?_
  refine kops_nil ?_
  refine kn_then ?_
  refine kwp_cond rfl (fun hc6 => ?_) (fun hc6 => ?_)
  ·
    replace h := e_t h hc6
    refine kwp_seq ?_
    refine kwp_region ?_
    refine kd (v_as) ?_
    refine kops_nil ?_
    refine kn_then ?_
    refine kwp_ret ?_
    refine kr_then ?_
    obtain rfl := e_some h
    refine r1 [] ?_
    exact ⟨rfl, rfl⟩
  ·
    replace h := e_f h hc6
    refine kwp_skip ?_
    refine kn_then ?_
    refine kwp_seq ?_
    refine kwp_region ?_
    refine kd (v_fb fa_32_0) ?_
    refine kd (v_ldb Tryd.isAgg3) ?_
    obtain ⟨v8, hv7, h⟩ := e_bind h
    refine kk (n_call Tryd.call66 (w_impl_ownParts hv7) ?_)
    rintro _ _ ⟨q9a, q9c, rfl, rfl⟩
    refine kd (v_as) ?_
    refine kops_nil ?_
    refine kn_then ?_
    refine kwp_seq ?_
    refine kwp_seq ?_
    refine kwp_region ?_
    refine kd (v_fb fa_32_1) ?_
    refine kd (v_ldb Tryd.isAgg30) ?_
    refine kd (v_len Tryd.runUnderlying30) ?_
    refine kd (v_mv) ?_
    refine kops_nil ?_
    refine kn_then ?_
    refine kwp_cutE (inv := [(3, .slice q9a v8.length q9c)]) (fun (z : List Int) (y : Unit) => []) (fun (z : List Int) (y : Unit) => [⟨.slice q9a v8.length q9c, 1, z.map encI⟩]) (fun _ _ => True) h ?_ ?_
    · intro t13 h11
      refine kwp_block ?_
      refine kwp_loopE (inv := [(3, .slice q9a v8.length q9c), (13, .slice m01a m0.aw.length m01c), (14, .int .i64 ((m0.aw.length : Nat) : Int))]) (fun (z : Int × List Int) (y : Unit) => [(15, .int .i64 z.1)]) (fun (z : Int × List Int) (y : Unit) => [⟨.slice q9a v8.length q9c, 1, z.2.map encI⟩]) (fun _ _ => True) h11 ⟨(), hd_mk trivial⟩ ?_
      intro z18 y19 b16 _ h17
      obtain ⟨x14, l15⟩ := z18
      unfold p_impl_AirLinked_L0 at h17
      refine kwp_seq ?_
      refine kwp_region ?_
      refine kd (v_cmp) ?_
      refine kops_nil ?_
      refine kn_then ?_
      refine kwp_seq ?_
      refine kwp_cond rfl (fun hc20 => ?_) (fun hc20 => ?_)
      ·
        replace h17 := e_t h17 hc20
        refine kwp_skip ?_
        refine kn_then ?_
        refine kwp_seq ?_
        refine kwp_block ?_
        refine kwp_seq ?_
        refine kwp_region ?_
        obtain ⟨j21, ej21, nj21, h17⟩ := e_idx h17
        refine kd (v_ia ej21 nj21 Tryd.runUnderlying30 Tryd.sizeOf36) ?_
        refine kd (v_lda (e := [_, _, _]) nj21 Tryd.isAgg36 Tryd.sizeOf36) ?_
        refine kk (n_alloc (e := [.int .i64 0, .int .i64 0, .int .i64 0]) 3 Tryd.zeroValue36 (fun p5_22 => ?_))
        refine kk (s_B (e' := [.int .i64 ((gx m0.aw j21).f), .int .i64 ((gx m0.aw j21).t), .int .i64 ((gx m0.aw j21).w)]) Tryd.sizeOf36 ?_)
        refine kops_nil ?_
        refine kn_then ?_
        refine kwp_region ?_
        refine kd (v_mv) ?_
        refine kd (v_fb fa_36_0) ?_
        refine kd (v_ldb Tryd.isAgg3) ?_
        refine kd (v_fb fa_36_1) ?_
        refine kd (v_ldb Tryd.isAgg3) ?_
        obtain ⟨⟨v24, v25⟩, hv23, h17⟩ := e_bind h17
        refine kk (n_call Tryd.call67 (w_impl_joinParts q9a v8.length q9c hv23) ?_)
        rintro _ _ ⟨rfl, rfl⟩
        refine kops_nil ?_
        refine kn_block ?_
        refine kn_then ?_
        refine kwp_region ?_
        refine kd (v_add) ?_
        refine kd (v_mv) ?_
        refine kops_nil ?_
        refine kn_then ?_
        obtain rfl := e_some h17
        exact ⟨_, (), rfl, hd_mk trivial⟩
      ·
        replace h17 := e_f h17 hc20
        refine kwp_exit ?_
        refine ke_then ?_
        obtain rfl := e_some h17
        refine k_out ?_ rfl
        rintro rfl
        refine ke_block ?_
        exact ⟨(), hd_mk trivial⟩
    · intro l10 y28 _ h29
      refine kn_then ?_
      refine kwp_seq ?_
      refine kwp_region ?_
      refine kd (v_mv) ?_
      obtain ⟨v31, hv30, h29⟩ := e_bind h29
      refine kk (n_call Tryd.call68 (w_impl_countParts q9a v8.length q9c hv30) ?_)
      rintro _ _ ⟨rfl, rfl⟩
      refine kd (v_cmp) ?_
      refine kd (v_as) ?_
      refine kops_nil ?_
      refine kn_then ?_
      refine kwp_ret ?_
      obtain rfl := e_some h29
      refine r1 [] ?_
      exact ⟨rfl, rfl⟩

set_option maxRecDepth 20000 in
set_option maxHeartbeats 2000000 in
theorem w_spec_LegValid  {stations0 : Int} {g0 : Leg} {r : Bool} (h : p_spec_LegValid stations0 g0 = some r) :
    Triple Tryd.prog 112 [.int .i64 stations0, .agg #[.int .i64 g0.f, .int .i64 g0.t, .int .i64 g0.e, .int .i64 g0.n, .int .i64 g0.u]] [] [] (fun v ch => v = .bool r ∧ ch = []) := by
  refine triple_start 43 Tryd.func112 Tryd.ntmps112 rfl rfl (fun w0 => ?_)
  unfold p_spec_LegValid at h
  refine kwp_seq ?_
  refine kwp_region ?_
  refine kk (n_box (e := [.int .i64 g0.f, .int .i64 g0.t, .int .i64 g0.e, .int .i64 g0.n, .int .i64 g0.u]) 5 (fun p3_1 => ?_))
  refine kd (v_as) ?_
  refine kops_nil ?_
  refine kn_then ?_
  refine kwp_seq ?_
  refine kwp_region ?_
  refine kd (v_mv) ?_
  obtain ⟨v3, hv2, h⟩ := e_bind h
  refine kk (n_call Tryd.call60 (w_spec_l1In hv2) ?_)
  rintro _ _ ⟨rfl, rfl⟩
  refine kd (v_mv) ?_
  refine kops_split 7 rfl (fun hb5 => ?_) (fun hb5 => ?_)
  ·
    replace h := e_t h hb5
    refine kgd hb5 (v_fb fa_55_0) ?_
    refine kgd hb5 (v_ldb Tryd.isAgg3) ?_
    refine kgd hb5 (v_mv) ?_
    refine kgd hb5 (v_sub) ?_
    obtain ⟨v7, hv6, h⟩ := e_bind h
    refine kgk hb5 (n_call Tryd.call60 (w_spec_l1In hv6) ?_)
    rintro _ _ ⟨rfl, rfl⟩
    refine kd (v_pt hb5) ?_
    refine kd (v_mv) ?_
    refine kops_split 14 rfl (fun hb9 => ?_) (fun hb9 => ?_)
    ·
      replace h := e_t h hb9
      refine kgd hb9 (v_fb fa_55_1) ?_
      refine kgd hb9 (v_ldb Tryd.isAgg3) ?_
      refine kgd hb9 (v_mv) ?_
      refine kgd hb9 (v_sub) ?_
      obtain ⟨v11, hv10, h⟩ := e_bind h
      refine kgk hb9 (n_call Tryd.call60 (w_spec_l1In hv10) ?_)
      rintro _ _ ⟨rfl, rfl⟩
      refine kd (v_pt hb9) ?_
      refine kd (v_mv) ?_
      refine kops_split 21 rfl (fun hb13 => ?_) (fun hb13 => ?_)
      ·
        replace h := e_t h hb13
        refine kgd hb13 (v_fb fa_55_0) ?_
        refine kgd hb13 (v_ldb Tryd.isAgg3) ?_
        refine kgd hb13 (v_fb fa_55_1) ?_
        refine kgd hb13 (v_ldb Tryd.isAgg3) ?_
        refine kgd hb13 (v_cmp) ?_
        refine kd (v_pt hb13) ?_
        refine kd (v_mv) ?_
        refine kops_split 28 rfl (fun hb14 => ?_) (fun hb14 => ?_)
        ·
          replace h := e_t h hb14
          refine kgd hb14 (v_fb fa_55_2) ?_
          refine kgd hb14 (v_ldb Tryd.isAgg3) ?_
          obtain ⟨v16, hv15, h⟩ := e_bind h
          refine kgk hb14 (n_call Tryd.call60 (w_spec_l1In hv15) ?_)
          rintro _ _ ⟨rfl, rfl⟩
          refine kd (v_pt hb14) ?_
          refine kd (v_mv) ?_
          refine kops_split 33 rfl (fun hb18 => ?_) (fun hb18 => ?_)
          ·
            replace h := e_t h hb18
            refine kgd hb18 (v_fb fa_55_3) ?_
            refine kgd hb18 (v_ldb Tryd.isAgg3) ?_
            obtain ⟨v20, hv19, h⟩ := e_bind h
            refine kgk hb18 (n_call Tryd.call60 (w_spec_l1In hv19) ?_)
            rintro _ _ ⟨rfl, rfl⟩
            refine kd (v_pt hb18) ?_
            refine kd (v_mv) ?_
            refine kops_split 38 rfl (fun hb22 => ?_) (fun hb22 => ?_)
            ·
              replace h := e_t h hb22
              refine kgd hb22 (v_fb fa_55_4) ?_
              refine kgd hb22 (v_ldb Tryd.isAgg3) ?_
              obtain ⟨v24, hv23, h⟩ := e_bind h
              refine kgk hb22 (n_call Tryd.call60 (w_spec_l1In hv23) ?_)
              rintro _ _ ⟨rfl, rfl⟩
              refine kd (v_pt hb22) ?_
              refine kd (v_as) ?_
              refine kops_nil ?_
              refine kn_then ?_
              refine kwp_ret ?_
              obtain rfl := e_some h
              refine r1 [] ?_
              exact ⟨rfl, rfl⟩
            ·
              replace h := e_f h hb22
              refine kskip hb22 ?_
              refine kskip hb22 ?_
              refine kskip hb22 ?_
              refine kd (v_pf hb22) ?_
              refine kd (v_as) ?_
              refine kops_nil ?_
              refine kn_then ?_
              refine kwp_ret ?_
              obtain rfl := e_some h
              refine r1 [] ?_
              exact ⟨rfl, rfl⟩
          ·
            replace h := e_f h hb18
            refine kskip hb18 ?_
            refine kskip hb18 ?_
            refine kskip hb18 ?_
            refine kd (v_pf hb18) ?_
            refine kd (v_mv) ?_
            refine kskip rfl ?_
            refine kskip rfl ?_
            refine kskip rfl ?_
            refine kd (v_pf rfl) ?_
            refine kd (v_as) ?_
            refine kops_nil ?_
            refine kn_then ?_
            refine kwp_ret ?_
            obtain rfl := e_some h
            refine r1 [] ?_
            exact ⟨rfl, rfl⟩
        ·
          replace h := e_f h hb14
          refine kskip hb14 ?_
          refine kskip hb14 ?_
          refine kskip hb14 ?_
          refine kd (v_pf hb14) ?_
          refine kd (v_mv) ?_
          refine kskip rfl ?_
          refine kskip rfl ?_
          refine kskip rfl ?_
          refine kd (v_pf rfl) ?_
          refine kd (v_mv) ?_
          refine kskip rfl ?_
          refine kskip rfl ?_
          refine kskip rfl ?_
          refine kd (v_pf rfl) ?_
          refine kd (v_as) ?_
          refine kops_nil ?_
          refine kn_then ?_
          refine kwp_ret ?_
          obtain rfl := e_some h
          refine r1 [] ?_
          exact ⟨rfl, rfl⟩
      ·
        replace h := e_f h hb13
        refine kskip hb13 ?_
        refine kskip hb13 ?_
        refine kskip hb13 ?_
        refine kskip hb13 ?_
        refine kskip hb13 ?_
        refine kd (v_pf hb13) ?_
        refine kd (v_mv) ?_
        refine kskip rfl ?_
        refine kskip rfl ?_
        refine kskip rfl ?_
        refine kd (v_pf rfl) ?_
        refine kd (v_mv) ?_
        refine kskip rfl ?_
        refine kskip rfl ?_
        refine kskip rfl ?_
        refine kd (v_pf rfl) ?_
        refine kd (v_mv) ?_
        refine kskip rfl ?_
        refine kskip rfl ?_
        refine kskip rfl ?_
        refine kd (v_pf rfl) ?_
        refine kd (v_as) ?_
        refine kops_nil ?_
        refine kn_then ?_
        refine kwp_ret ?_
        obtain rfl := e_some h
        refine r1 [] ?_
        exact ⟨rfl, rfl⟩
    ·
      replace h := e_f h hb9
      refine kskip hb9 ?_
      refine kskip hb9 ?_
      refine kskip hb9 ?_
      refine kskip hb9 ?_
      refine kskip hb9 ?_
      refine kd (v_pf hb9) ?_
      refine kd (v_mv) ?_
      refine kskip rfl ?_
      refine kskip rfl ?_
      refine kskip rfl ?_
      refine kskip rfl ?_
      refine kskip rfl ?_
      refine kd (v_pf rfl) ?_
      refine kd (v_mv) ?_
      refine kskip rfl ?_
      refine kskip rfl ?_
      refine kskip rfl ?_
      refine kd (v_pf rfl) ?_
      refine kd (v_mv) ?_
      refine kskip rfl ?_
      refine kskip rfl ?_
      refine kskip rfl ?_
      refine kd (v_pf rfl) ?_
      refine kd (v_mv) ?_
      refine kskip rfl ?_
      refine kskip rfl ?_
      refine kskip rfl ?_
      refine kd (v_pf rfl) ?_
      refine kd (v_as) ?_
      refine kops_nil ?_
      refine kn_then ?_
      refine kwp_ret ?_
      obtain rfl := e_some h
      refine r1 [] ?_
      exact ⟨rfl, rfl⟩
  ·
    replace h := e_f h hb5
    refine kskip hb5 ?_
    refine kskip hb5 ?_
    refine kskip hb5 ?_
    refine kskip hb5 ?_
    refine kskip hb5 ?_
    refine kd (v_pf hb5) ?_
    refine kd (v_mv) ?_
    refine kskip rfl ?_
    refine kskip rfl ?_
    refine kskip rfl ?_
    refine kskip rfl ?_
    refine kskip rfl ?_
    refine kd (v_pf rfl) ?_
    refine kd (v_mv) ?_
    refine kskip rfl ?_
    refine kskip rfl ?_
    refine kskip rfl ?_
    refine kskip rfl ?_
    refine kskip rfl ?_
    refine kd (v_pf rfl) ?_
    refine kd (v_mv) ?_
    refine kskip rfl ?_
    refine kskip rfl ?_
    refine kskip rfl ?_
    refine kd (v_pf rfl) ?_
    refine kd (v_mv) ?_
    refine kskip rfl ?_
    refine kskip rfl ?_
    refine kskip rfl ?_
    refine kd (v_pf rfl) ?_
    refine kd (v_mv) ?_
    refine kskip rfl ?_
    refine kskip rfl ?_
    refine kskip rfl ?_
    refine kd (v_pf rfl) ?_
    refine kd (v_as) ?_
    refine kops_nil ?_
    refine kn_then ?_
    refine kwp_ret ?_
    obtain rfl := e_some h
    refine r1 [] ?_
    exact ⟨rfl, rfl⟩

set_option maxRecDepth 20000 in
theorem w_spec_SurveyValid (s01a : Option Addr) (s01n : Nat) (s01c : Nat) {s0 : Survey} {r : Bool} (h : p_spec_SurveyValid s0 = some r) :
    Triple Tryd.prog 98 [.agg #[.int .i64 s0.st, .slice s01a s01n s01c]] [⟨.slice s01a s01n s01c, 5, s0.legs.map encLeg⟩] [] (fun v ch => v = .bool r ∧ ch = []) := by
  refine triple_start 29 Tryd.func98 Tryd.ntmps98 rfl rfl (fun w0 => ?_)
  refine k_len (c := s01c) (fun hl1 => ?_)
  subst hl1
  unfold p_spec_SurveyValid at h
  refine kwp_seq ?_
  refine kwp_region ?_
  refine kk (n_box (e := [.int .i64 s0.st, .slice s01a s0.legs.length s01c]) 2 (fun p1_2 => ?_))
  refine kd (v_as) ?_
  refine kops_nil ?_
  refine kn_then ?_
  refine kwp_seq ?_
  refine kwp_seq ?_
  refine kwp_region ?_
  refine kd (v_as) ?_
  refine kops_nil ?_
  refine kn_then ?_
  refine kwp_cutO (inv := [(1, .pointer (some p1_2))]) (fun (z : Unit) (y : Unit) => []) (fun (z : Unit) (y : Unit) => [⟨.pointer (some p1_2), 2, [[.int .i64 s0.st, .slice s01a s0.legs.length s01c]]⟩]) (fun _ _ => True) h ?_ ?_
  · intro t5 h3 g4
    refine kwp_block ?_
    refine kwp_loopE (inv := [(1, .pointer (some p1_2))]) (fun (z : Int) (y : Unit) => [(3, .int .i64 z)]) (fun (z : Int) (y : Unit) => [⟨.pointer (some p1_2), 2, [[.int .i64 s0.st, .slice s01a s0.legs.length s01c]]⟩]) (fun _ _ => True) h3 ⟨(), hd_mk trivial⟩ ?_
    intro k6 y10 b7 _ h8
    unfold p_spec_SurveyValid_L0 at h8
    refine kwp_seq ?_
    refine kwp_seq ?_
    refine kwp_region ?_
    refine kd (v_mv) ?_
    refine kd (v_fb fa_53_1) ?_
    refine kd (v_ldb Tryd.isAgg51) ?_
    refine kd (v_len Tryd.runUnderlying51) ?_
    refine kd (v_cmp) ?_
    refine kops_nil ?_
    refine kn_then ?_
    refine kwp_cond rfl (fun hc11 => ?_) (fun hc11 => ?_)
    ·
      replace h8 := e_t h8 hc11
      refine kwp_skip ?_
      refine kn_then ?_
      refine kwp_seq ?_
      refine kwp_block ?_
      refine kwp_seq ?_
      obtain ⟨j12, ej12, nj12, h8⟩ := e_idx h8
      obtain ⟨v14, hv13, h8⟩ := e_bind h8
      refine kwp_tree (.quiet 0 (.quiet 1 (.quiet 2 (.quiet 3 (.quiet 4 (.quiet 5 (.quiet 6 (.one 7 (.quiet 8 .stop))))))))) [] [⟨.pointer (some p1_2), 2, [[.int .i64 s0.st, .slice s01a s0.legs.length s01c]]⟩] drawMixed (by kernel_rfl) nopan (by (repeat (first | exact Sub.refl _ | exact Sub.nil _ | refine Sub.chunk (by repeat (first | exact Pick.here | apply Pick.there | apply Pick.seg)) (by rfl) ?_ | refine Sub.seg (by repeat (first | exact PickSeg.here | exact PickSeg.all | apply PickSeg.there | apply PickSeg.seg)) ?_ | exact Sub.seg0 (by repeat (first | exact PickSeg.here | exact PickSeg.all | apply PickSeg.there | apply PickSeg.seg)) | apply Sub.assoc))) ?_
      refine kt_d rfl rfl rfl (v_fb fa_53_0) ?_
      refine kt_d rfl rfl rfl (v_ldb Tryd.isAgg3) ?_
      refine kt_d rfl rfl rfl (v_fb fa_53_1) ?_
      refine kt_d rfl rfl rfl (v_ldb Tryd.isAgg51) ?_
      refine kt_d rfl rfl rfl (v_mv) ?_
      refine kt_d rfl rfl rfl (v_ia ej12 nj12 Tryd.runUnderlying51 Tryd.sizeOf55) ?_
      refine kt_d rfl rfl rfl (v_lda (e := [_, _, _, _, _]) nj12 Tryd.isAgg55 Tryd.sizeOf55) ?_
      refine kt_one ?_
      refine kl_k rfl rfl (n_call Tryd.call112 (w_spec_LegValid hv13) ?_)
      rintro _ _ ⟨rfl, rfl⟩
      refine ⟨.inl (by (repeat (first | exact Sub.refl _ | exact Sub.nil _ | refine Sub.chunk (by repeat (first | exact Pick.here | apply Pick.there | apply Pick.seg)) (by rfl) ?_ | refine Sub.seg (by repeat (first | exact PickSeg.here | exact PickSeg.all | apply PickSeg.there | apply PickSeg.seg)) ?_ | exact Sub.seg0 (by repeat (first | exact PickSeg.here | exact PickSeg.all | apply PickSeg.there | apply PickSeg.seg)) | apply Sub.assoc))), ?_⟩
      refine kt_d rfl rfl rfl (v_not) ?_
      refine kt_nil ?_
      refine kn_then ?_
      refine kwp_cond rfl (fun hc16 => ?_) (fun hc16 => ?_)
      ·
        replace h8 := e_t h8 hc16
        refine kwp_seq ?_
        refine kwp_region ?_
        refine kd (v_as) ?_
        refine kops_nil ?_
        refine kn_then ?_
        refine kwp_ret ?_
        refine kr_block ?_
        refine kr_then ?_
        refine kr_then ?_
        obtain rfl := e_some h8
        refine k_out ?_ rfl
        rintro rfl
        refine kr_block ?_
        refine kr_then ?_
        refine kr_then ?_
        obtain rfl := e_some g4
        refine r1 [] ?_
        exact ⟨rfl, rfl⟩
      ·
        replace h8 := e_f h8 hc16
        refine kwp_skip ?_
        refine kn_block ?_
        refine kn_then ?_
        refine kwp_region ?_
        refine kd (v_mv) ?_
        refine kd (v_add) ?_
        refine kd (v_as) ?_
        refine kops_nil ?_
        refine kn_then ?_
        obtain rfl := e_some h8
        exact ⟨_, (), rfl, hd_mk trivial⟩
    ·
      replace h8 := e_f h8 hc11
      refine kwp_exit ?_
      refine ke_then ?_
      obtain rfl := e_some h8
      refine k_out ?_ rfl
      rintro rfl
      refine ke_block ?_
      exact ⟨_, (), rfl, hd_mk trivial⟩
  · intro z17 y18 _ h19
    refine kn_then ?_
    refine kwp_seq ?_
    refine kwp_region ?_
    refine kd (v_fb fa_53_0) ?_
    refine kd (v_ldb Tryd.isAgg3) ?_
    obtain ⟨v21, hv20, h19⟩ := e_bind h19
    refine kk (n_call Tryd.call60 (w_spec_l1In hv20) ?_)
    rintro _ _ ⟨rfl, rfl⟩
    refine kd (v_mv) ?_
    refine kops_split 23 rfl (fun hb23 => ?_) (fun hb23 => ?_)
    ·
      replace h19 := e_t h19 hb23
      refine kgd hb23 (v_fb fa_53_1) ?_
      refine kgd hb23 (v_ldb Tryd.isAgg51) ?_
      refine kgd hb23 (v_len Tryd.runUnderlying51) ?_
      refine kgd hb23 (v_cmp) ?_
      refine kd (v_pt hb23) ?_
      refine kd (v_as) ?_
      refine kops_nil ?_
      refine kn_then ?_
      refine kwp_ret ?_
      obtain rfl := e_some h19
      refine r1 [] ?_
      exact ⟨rfl, rfl⟩
    ·
      replace h19 := e_f h19 hb23
      refine kskip hb23 ?_
      refine kskip hb23 ?_
      refine kskip hb23 ?_
      refine kskip hb23 ?_
      refine kd (v_pf hb23) ?_
      refine kd (v_as) ?_
      refine kops_nil ?_
      refine kn_then ?_
      refine kwp_ret ?_
      obtain rfl := e_some h19
      refine r1 [] ?_
      exact ⟨rfl, rfl⟩

set_option maxRecDepth 20000 in
set_option maxHeartbeats 2000000 in
theorem w_spec_l1Parts (s01a : Option Addr) (s01n : Nat) (s01c : Nat) (use0a : Option Addr) (use0n : Nat) (use0c : Nat) {s0 : Survey} {use0 : List Int} {r : List Int} (h : p_spec_l1Parts s0 use0 = some r) :
    Triple Tryd.prog 113 [.agg #[.int .i64 s0.st, .slice s01a s01n s01c], .slice use0a use0n use0c] [⟨.slice s01a s01n s01c, 5, s0.legs.map encLeg⟩, ⟨.slice use0a use0n use0c, 1, use0.map encI⟩] [] (fun v ch => ∃ (w0a : Option Addr) (w0c : Nat), v = .slice w0a r.length w0c ∧ ch = [⟨.slice w0a r.length w0c, 1, r.map encI⟩]) := by
  refine triple_start 73 Tryd.func113 Tryd.ntmps113 rfl rfl (fun w0 => ?_)
  refine k_len (c := s01c) (fun hl1 => ?_)
  subst hl1
  refine k_len (c := use0c) (fun hl2 => ?_)
  subst hl2
  unfold p_spec_l1Parts at h
  refine kwp_seq ?_
  refine kwp_region ?_
  refine kk (n_box (e := [.int .i64 s0.st, .slice s01a s0.legs.length s01c]) 2 (fun p2_3 => ?_))
  refine kops_nilchunk 1 (by decide) ?_
  refine kd (v_as) ?_
  refine kops_nil ?_
  refine kn_then ?_
  refine kwp_seq ?_
  refine kwp_region ?_
  refine kk (n_lit (enc := encI) [] ([] : List Int) Tryd.runUnderlying46 Tryd.sizeOf3 Tryd.zeroValue3 (fun a4 => ?_))
  refine kd (v_as) ?_
  refine kops_nil ?_
  refine kn_then ?_
  refine kwp_seq ?_
  refine kwp_seq ?_
  refine kwp_region ?_
  refine kd (v_as) ?_
  refine kops_nil ?_
  refine kn_then ?_
  refine kwp_cutE (inv := [(1, .slice use0a use0.length use0c), (2, .pointer (some p2_3))]) (fun (z : List Int) (y : Option Addr × Nat × Nat) => [(5, .slice y.1 y.2.1 y.2.2)]) (fun (z : List Int) (y : Option Addr × Nat × Nat) => [⟨.slice y.1 y.2.1 y.2.2, 1, z.map encI⟩, ⟨.pointer (some p2_3), 2, [[.int .i64 s0.st, .slice s01a s0.legs.length s01c]]⟩]) (fun _ _ => True) h ?_ ?_
  · intro t8 h6
    refine kwp_block ?_
    refine kwp_loopE (inv := [(1, .slice use0a use0.length use0c), (2, .pointer (some p2_3))]) (fun (z : List Int × Int) (y : Option Addr × Nat × Nat) => [(5, .slice y.1 y.2.1 y.2.2), (6, .int .i64 z.2)]) (fun (z : List Int × Int) (y : Option Addr × Nat × Nat) => [⟨.slice y.1 y.2.1 y.2.2, 1, z.1.map encI⟩, ⟨.pointer (some p2_3), 2, [[.int .i64 s0.st, .slice s01a s0.legs.length s01c]]⟩]) (fun _ _ => True) h6 ⟨(some a4, 0, 0), hd_mk trivial⟩ ?_
    intro z13 y14 b11 _ h12
    obtain ⟨part9, k10⟩ := z13
    obtain ⟨part9a, part9n, part9c⟩ := y14
    refine k_len (c := part9c) (fun hl15 => ?_)
    subst hl15
    unfold p_spec_l1Parts_L0 at h12
    refine kwp_seq ?_
    refine kwp_seq ?_
    refine kwp_region ?_
    refine kd (v_mv) ?_
    refine kd (v_fb fa_53_0) ?_
    refine kd (v_ldb Tryd.isAgg3) ?_
    refine kd (v_cmp) ?_
    refine kops_nil ?_
    refine kn_then ?_
    refine kwp_cond rfl (fun hc16 => ?_) (fun hc16 => ?_)
    ·
      replace h12 := e_t h12 hc16
      refine kwp_skip ?_
      refine kn_then ?_
      refine kwp_seq ?_
      refine kwp_block ?_
      refine kwp_region ?_
      refine kd (v_mv) ?_
      refine kd (v_mv) ?_
      refine kk (n_lit (enc := encI) [_] ([k10] : List Int) Tryd.runUnderlying46 Tryd.sizeOf3 Tryd.zeroValue3 (fun a17 => ?_))
      obtain ⟨hz18, h12⟩ := e_need h12
      refine kk (n_app (enc := encI) ok_encI hz18 Tryd.underlying46 Tryd.type3 (by decide) (fun a19 c20 => ?_))
      refine kd (v_as) ?_
      refine kops_nil ?_
      refine kn_block ?_
      refine kn_then ?_
      refine kwp_region ?_
      refine kd (v_mv) ?_
      refine kd (v_add) ?_
      refine kd (v_as) ?_
      refine kops_nil ?_
      refine kn_then ?_
      obtain rfl := e_some h12
      exact ⟨_, (a19, (part9 ++ ([k10] : List Int)).length, c20), rfl, hd_mk trivial⟩
    ·
      replace h12 := e_f h12 hc16
      refine kwp_exit ?_
      refine ke_then ?_
      obtain rfl := e_some h12
      refine k_out ?_ rfl
      rintro rfl
      refine ke_block ?_
      exact ⟨(part9a, part9.length, part9c), hd_mk trivial⟩
  · intro part5 y22 _ h23
    obtain ⟨part5a, part5n, part5c⟩ := y22
    refine k_len (c := part5c) (fun hl24 => ?_)
    subst hl24
    refine kwp_seq ?_
    refine kwp_seq ?_
    refine kwp_region ?_
    refine kd (v_as) ?_
    refine kops_nil ?_
    refine kn_then ?_
    refine kwp_cutE (inv := [(5, .slice part5a part5.length part5c)]) (fun (z : List Int) (y : Unit) => []) (fun (z : List Int) (y : Unit) => [⟨.slice part5a (part5.length) part5c, 1, z.map encI⟩]) (fun _ _ => True) h23 ?_ ?_
    · intro t28 h26
      refine kwp_block ?_
      refine kwp_loopE (inv := [(1, .slice use0a use0.length use0c), (2, .pointer (some p2_3)), (5, .slice part5a part5.length part5c)]) (fun (z : Int × List Int) (y : Unit) => [(7, .int .i64 z.1)]) (fun (z : Int × List Int) (y : Unit) => [⟨.slice part5a (part5.length) part5c, 1, z.2.map encI⟩, ⟨.pointer (some p2_3), 2, [[.int .i64 s0.st, .slice s01a s0.legs.length s01c]]⟩]) (fun _ _ => True) h26 ⟨(), hd_mk trivial⟩ ?_
      intro z33 y34 b31 _ h32
      obtain ⟨n29, l30⟩ := z33
      unfold p_spec_l1Parts_L1 at h32
      refine kwp_seq ?_
      refine kwp_seq ?_
      refine kwp_region ?_
      refine kd (v_mv) ?_
      refine kd (v_mv) ?_
      refine kd (v_len Tryd.runUnderlying46) ?_
      refine kd (v_cmp) ?_
      refine kops_nil ?_
      refine kn_then ?_
      refine kwp_cond rfl (fun hc35 => ?_) (fun hc35 => ?_)
      ·
        replace h32 := e_t h32 hc35
        refine kwp_skip ?_
        refine kn_then ?_
        refine kwp_seq ?_
        refine kwp_block ?_
        refine kwp_seq ?_
        obtain ⟨j36, ej36, nj36, h32⟩ := e_idx h32
        obtain ⟨j37, ej37, nj37, h32⟩ := e_idx h32
        obtain ⟨j38, ej38, nj38, h32⟩ := e_idx h32
        refine kwp_tree (.quiet 0 (.quiet 1 (.quiet 2 (.quiet 3 (.quiet 4 (.quiet 5 (.quiet 6 (.quiet 7 (.quiet 8 (.quiet 9 (.quiet 10 (.quiet 11 (.quiet 12 .stop))))))))))))) [] [⟨.pointer (some p2_3), 2, [[.int .i64 s0.st, .slice s01a s0.legs.length s01c]]⟩, ⟨.slice part5a (part5.length) part5c, 1, l30.map encI⟩] drawMixed (by kernel_rfl) nopan (by (repeat (first | exact Sub.refl _ | exact Sub.nil _ | refine Sub.chunk (by repeat (first | exact Pick.here | apply Pick.there | apply Pick.seg)) (by rfl) ?_ | refine Sub.seg (by repeat (first | exact PickSeg.here | exact PickSeg.all | apply PickSeg.there | apply PickSeg.seg)) ?_ | exact Sub.seg0 (by repeat (first | exact PickSeg.here | exact PickSeg.all | apply PickSeg.there | apply PickSeg.seg)) | apply Sub.assoc))) ?_
        refine kt_d rfl rfl rfl (v_mv) ?_
        refine kt_d rfl rfl rfl (v_fb fa_53_1) ?_
        refine kt_d rfl rfl rfl (v_ldb Tryd.isAgg51) ?_
        refine kt_d rfl rfl rfl (v_mv) ?_
        refine kt_d rfl rfl rfl (v_mv) ?_
        refine kt_d rfl rfl rfl (v_ia ej36 nj36 Tryd.runUnderlying46 Tryd.sizeOf3) ?_
        refine kt_d rfl rfl rfl (v_ldf nj36 Tryd.isAgg3) ?_
        refine kt_d rfl rfl rfl (v_ia ej37 nj37 Tryd.runUnderlying51 Tryd.sizeOf55) ?_
        refine kt_d rfl rfl rfl (v_fa nj37 fa_55_0) ?_
        refine kt_d rfl rfl rfl (v_ldf nj37 Tryd.isAgg3) ?_
        refine kt_d rfl rfl rfl (v_ia ej38 nj38 Tryd.runUnderlying46 Tryd.sizeOf3) ?_
        refine kt_d rfl rfl rfl (v_ldf nj38 Tryd.isAgg3) ?_
        refine kt_d rfl rfl rfl (v_as) ?_
        refine kt_nil ?_
        refine kn_then ?_
        refine kwp_seq ?_
        obtain ⟨j39, ej39, nj39, h32⟩ := e_idx h32
        refine kwp_tree (.quiet 0 (.quiet 1 (.quiet 2 (.quiet 3 (.quiet 4 (.quiet 5 (.quiet 6 (.quiet 7 (.quiet 8 (.quiet 9 (.quiet 10 (.quiet 11 (.quiet 12 .stop))))))))))))) [] [⟨.pointer (some p2_3), 2, [[.int .i64 s0.st, .slice s01a s0.legs.length s01c]]⟩, ⟨.slice part5a (part5.length) part5c, 1, l30.map encI⟩] drawMixed (by kernel_rfl) nopan (by (repeat (first | exact Sub.refl _ | exact Sub.nil _ | refine Sub.chunk (by repeat (first | exact Pick.here | apply Pick.there | apply Pick.seg)) (by rfl) ?_ | refine Sub.seg (by repeat (first | exact PickSeg.here | exact PickSeg.all | apply PickSeg.there | apply PickSeg.seg)) ?_ | exact Sub.seg0 (by repeat (first | exact PickSeg.here | exact PickSeg.all | apply PickSeg.there | apply PickSeg.seg)) | apply Sub.assoc))) ?_
        refine kt_d rfl rfl rfl (v_mv) ?_
        refine kt_d rfl rfl rfl (v_fb fa_53_1) ?_
        refine kt_d rfl rfl rfl (v_ldb Tryd.isAgg51) ?_
        refine kt_d rfl rfl rfl (v_mv) ?_
        refine kt_d rfl rfl rfl (v_mv) ?_
        refine kt_d rfl rfl rfl (v_ia ej36 nj36 Tryd.runUnderlying46 Tryd.sizeOf3) ?_
        refine kt_d rfl rfl rfl (v_ldf nj36 Tryd.isAgg3) ?_
        refine kt_d rfl rfl rfl (v_ia ej37 nj37 Tryd.runUnderlying51 Tryd.sizeOf55) ?_
        refine kt_d rfl rfl rfl (v_fa nj37 fa_55_1) ?_
        refine kt_d rfl rfl rfl (v_ldf nj37 Tryd.isAgg3) ?_
        refine kt_d rfl rfl rfl (v_ia ej39 nj39 Tryd.runUnderlying46 Tryd.sizeOf3) ?_
        refine kt_d rfl rfl rfl (v_ldf nj39 Tryd.isAgg3) ?_
        refine kt_d rfl rfl rfl (v_as) ?_
        refine kt_nil ?_
        refine kn_then ?_
        refine kwp_seq ?_
        refine kwp_region ?_
        refine kd (v_as) ?_
        refine kops_nil ?_
        refine kn_then ?_
        refine kwp_cutE (inv := [(1, .slice use0a use0.length use0c), (2, .pointer (some p2_3)), (5, .slice part5a part5.length part5c), (7, .int .i64 n29)]) (fun (z : List Int) (y : Unit) => []) (fun (z : List Int) (y : Unit) => [⟨.slice part5a (part5.length) part5c, 1, z.map encI⟩, ⟨.pointer (some p2_3), 2, [[.int .i64 s0.st, .slice s01a s0.legs.length s01c]]⟩]) (fun _ _ => True) h32 ?_ ?_
        · intro t43 h41
          refine kwp_block ?_
          refine kwp_loopE (inv := [(1, .slice use0a use0.length use0c), (2, .pointer (some p2_3)), (5, .slice part5a part5.length part5c), (7, .int .i64 n29), (8, .int .i64 (gx l30 j38)), (9, .int .i64 (gx l30 j39))]) (fun (z : Int × List Int) (y : Unit) => [(10, .int .i64 z.1)]) (fun (z : Int × List Int) (y : Unit) => [⟨.slice part5a (part5.length) part5c, 1, z.2.map encI⟩, ⟨.pointer (some p2_3), 2, [[.int .i64 s0.st, .slice s01a s0.legs.length s01c]]⟩]) (fun _ _ => True) h41 ⟨(), hd_mk trivial⟩ ?_
          intro z48 y49 b46 _ h47
          obtain ⟨k44, l45⟩ := z48
          unfold p_spec_l1Parts_L2 at h47
          refine kwp_seq ?_
          refine kwp_seq ?_
          refine kwp_region ?_
          refine kd (v_mv) ?_
          refine kd (v_mv) ?_
          refine kd (v_len Tryd.runUnderlying46) ?_
          refine kd (v_cmp) ?_
          refine kops_nil ?_
          refine kn_then ?_
          refine kwp_cond rfl (fun hc50 => ?_) (fun hc50 => ?_)
          ·
            replace h47 := e_t h47 hc50
            refine kwp_skip ?_
            refine kn_then ?_
            refine kwp_seq ?_
            refine kwp_block ?_
            refine kwp_seq ?_
            refine kwp_region ?_
            refine kd (v_mv) ?_
            refine kd (v_mv) ?_
            obtain ⟨j51, ej51, nj51, h47⟩ := e_idx h47
            refine kd (v_ia ej51 nj51 Tryd.runUnderlying46 Tryd.sizeOf3) ?_
            refine kd (v_ldf nj51 Tryd.isAgg3) ?_
            refine kd (v_mv) ?_
            refine kd (v_mv) ?_
            refine kd (v_max) ?_
            refine kd (v_cmp) ?_
            refine kops_nil ?_
            refine kn_then ?_
            refine kwp_cond rfl (fun hc52 => ?_) (fun hc52 => ?_)
            ·
              replace h47 := e_t h47 hc52
              refine kwp_region ?_
              refine kd (v_mv) ?_
              refine kd (v_mv) ?_
              refine kd (v_mv) ?_
              refine kd (v_mv) ?_
              refine kd (v_min) ?_
              refine kd (v_ia ej51 nj51 Tryd.runUnderlying46 Tryd.sizeOf3) ?_
              refine kk (s_f (min (gx l30 j38) (gx l30 j39)) nj51 Tryd.sizeOf3 ?_)
              refine kops_nil ?_
              refine kn_block ?_
              refine kn_then ?_
              refine kwp_region ?_
              refine kd (v_mv) ?_
              refine kd (v_add) ?_
              refine kd (v_as) ?_
              refine kops_nil ?_
              refine kn_then ?_
              obtain rfl := e_some h47
              exact ⟨_, (), rfl, hd_mk trivial⟩
            ·
              replace h47 := e_f h47 hc52
              refine kwp_skip ?_
              refine kn_block ?_
              refine kn_then ?_
              refine kwp_region ?_
              refine kd (v_mv) ?_
              refine kd (v_add) ?_
              refine kd (v_as) ?_
              refine kops_nil ?_
              refine kn_then ?_
              obtain rfl := e_some h47
              exact ⟨_, (), rfl, hd_mk trivial⟩
          ·
            replace h47 := e_f h47 hc50
            refine kwp_exit ?_
            refine ke_then ?_
            obtain rfl := e_some h47
            refine k_out ?_ rfl
            rintro rfl
            refine ke_block ?_
            exact ⟨(), hd_mk trivial⟩
        · intro l40 y54 _ h55
          refine kn_block ?_
          refine kn_then ?_
          refine kwp_region ?_
          refine kd (v_mv) ?_
          refine kd (v_add) ?_
          refine kd (v_as) ?_
          refine kops_nil ?_
          refine kn_then ?_
          obtain rfl := e_some h55
          exact ⟨_, (), rfl, hd_mk trivial⟩
      ·
        replace h32 := e_f h32 hc35
        refine kwp_exit ?_
        refine ke_then ?_
        obtain rfl := e_some h32
        refine k_out ?_ rfl
        rintro rfl
        refine ke_block ?_
        exact ⟨(), hd_mk trivial⟩
    · intro l25 y57 _ h58
      refine kn_then ?_
      refine kwp_seq ?_
      refine kwp_region ?_
      refine kd (v_mv) ?_
      refine kd (v_as) ?_
      refine kops_nil ?_
      refine kn_then ?_
      refine k_len (c := part5c) (fun hl59 => ?_)
      refine kwp_ret ?_
      obtain rfl := e_some h58
      refine r1 [⟨.slice part5a (part5.length) part5c, 1, l25.map encI⟩] ?_
      exact ⟨part5a, part5c, by first | rfl | (rw [← hl59] <;> rfl) | ((try dsimp only); rw [← hl59] <;> rfl) | (simp; done), by first | rfl | (rw [← hl59] <;> rfl) | ((try dsimp only); rw [← hl59] <;> rfl) | (simp; done)⟩

set_option maxRecDepth 20000 in
theorem w_spec_l3Survey (m01a : Option Addr) (m01n : Nat) (m01c : Nat) {m0 : Mine} {r : Survey} (h : p_spec_l3Survey m0 = some r) :
    Triple Tryd.prog 76 [.agg #[.int .i64 m0.p, .slice m01a m01n m01c]] [⟨.slice m01a m01n m01c, 3, m0.aw.map encAirway⟩] [] (fun v ch => ∃ (w01a : Option Addr) (w01c : Nat), v = .agg #[.int .i64 r.st, .slice w01a r.legs.length w01c] ∧ ch = [⟨.slice w01a r.legs.length w01c, 5, r.legs.map encLeg⟩]) := by
  refine triple_start 34 Tryd.func76 Tryd.ntmps76 rfl rfl (fun w0 => ?_)
  refine k_len (c := m01c) (fun hl1 => ?_)
  subst hl1
  unfold p_spec_l3Survey at h
  refine kwp_seq ?_
  refine kwp_region ?_
  refine kk (n_box (e := [.int .i64 m0.p, .slice m01a m0.aw.length m01c]) 2 (fun p1_2 => ?_))
  refine kops_nilchunk 5 (by decide) ?_
  refine kk (n_alloc (e := [.int .i64 0, .slice none 0 0]) 2 Tryd.zeroValue53 (fun p2_3 => ?_))
  refine kops_nil ?_
  refine kn_then ?_
  refine kwp_seq ?_
  refine kwp_region ?_
  refine kd (v_fb fa_32_0) ?_
  refine kd (v_ldb Tryd.isAgg3) ?_
  refine kops_nilchunk 5 (by decide) ?_
  refine kd (v_bd [(0, _)] [_, .slice none 0 0] Tryd.zeroValue53 Tryd.runUnderlying53 pl_53) ?_
  refine kops_nilchunk 5 (by decide) ?_
  refine kk (n_alloc (e := [.int .i64 0, .slice none 0 0]) 2 Tryd.zeroValue53 (fun p3_4 => ?_))
  refine kk (s_B (e' := [.int .i64 m0.p, .slice none 0 0]) Tryd.sizeOf53 ?_)
  refine kops_nil ?_
  refine kn_then ?_
  refine kwp_seq ?_
  refine kwp_seq ?_
  refine kwp_region ?_
  refine kd (v_as) ?_
  refine kops_nil ?_
  refine kn_then ?_
  refine kwp_cutE (inv := [(2, .pointer (some p2_3)), (3, .pointer (some p3_4))]) (fun (z : List Leg) (y : Option Addr × Nat × Nat) => []) (fun (z : List Leg) (y : Option Addr × Nat × Nat) => [⟨.pointer (some p3_4), 2, [[.int .i64 m0.p, .slice y.1 y.2.1 y.2.2]]⟩, ⟨.slice y.1 y.2.1 y.2.2, 5, z.map encLeg⟩, ⟨.pointer (some p2_3), 2, [[.int .i64 0, .slice none 0 0]]⟩, ⟨.slice none 0 0, 5, ([] : List Leg).map encLeg⟩]) (fun _ _ => True) h ?_ ?_
  · intro t8 h6
    refine kwp_block ?_
    refine kwp_loopE (inv := [(1, .pointer (some p1_2)), (2, .pointer (some p2_3)), (3, .pointer (some p3_4))]) (fun (z : Int × List Leg) (y : Option Addr × Nat × Nat) => [(4, .int .i64 z.1)]) (fun (z : Int × List Leg) (y : Option Addr × Nat × Nat) => [⟨.pointer (some p3_4), 2, [[.int .i64 m0.p, .slice y.1 y.2.1 y.2.2]]⟩, ⟨.slice y.1 y.2.1 y.2.2, 5, z.2.map encLeg⟩, ⟨.pointer (some p1_2), 2, [[.int .i64 m0.p, .slice m01a m0.aw.length m01c]]⟩, ⟨.pointer (some p2_3), 2, [[.int .i64 0, .slice none 0 0]]⟩, ⟨.slice none 0 0, 5, ([] : List Leg).map encLeg⟩]) (fun _ _ => True) h6 ⟨(none, 0, 0), hd_mk trivial⟩ ?_
    intro z13 y14 b11 _ h12
    obtain ⟨k9, legs10⟩ := z13
    obtain ⟨legs10a, legs10n, legs10c⟩ := y14
    refine k_len (c := legs10c) (fun hl15 => ?_)
    subst hl15
    unfold p_spec_l3Survey_L0 at h12
    refine kwp_seq ?_
    refine kwp_seq ?_
    refine kwp_region ?_
    refine kd (v_mv) ?_
    refine kd (v_fb fa_32_1) ?_
    refine kd (v_ldb Tryd.isAgg30) ?_
    refine kd (v_len Tryd.runUnderlying30) ?_
    refine kd (v_cmp) ?_
    refine kops_nil ?_
    refine kn_then ?_
    refine kwp_cond rfl (fun hc16 => ?_) (fun hc16 => ?_)
    ·
      replace h12 := e_t h12 hc16
      refine kwp_skip ?_
      refine kn_then ?_
      refine kwp_seq ?_
      refine kwp_block ?_
      obtain ⟨j17, ej17, nj17, h12⟩ := e_idx h12
      obtain ⟨hz19, h12⟩ := e_need h12
      refine kwp_tree (.quiet 0 (.quiet 1 (.quiet 2 (.quiet 3 (.quiet 4 (.quiet 5 (.quiet 6 (.quiet 7 (.quiet 8 (.quiet 9 (.quiet 10 (.quiet 11 (.quiet 12 (.quiet 13 (.quiet 14 (.one 15 (.one 16 (.quiet 17 (.one 18 .stop))))))))))))))))))) [18] [⟨.pointer (some p1_2), 2, [[.int .i64 m0.p, .slice m01a m0.aw.length m01c]]⟩, ⟨.pointer (some p3_4), 2, [[.int .i64 m0.p, .slice legs10a legs10.length legs10c]]⟩] drawMixed (by kernel_rfl) nopan (by (repeat (first | exact Sub.refl _ | exact Sub.nil _ | refine Sub.chunk (by repeat (first | exact Pick.here | apply Pick.there | apply Pick.seg)) (by rfl) ?_ | refine Sub.seg (by repeat (first | exact PickSeg.here | exact PickSeg.all | apply PickSeg.there | apply PickSeg.seg)) ?_ | exact Sub.seg0 (by repeat (first | exact PickSeg.here | exact PickSeg.all | apply PickSeg.there | apply PickSeg.seg)) | apply Sub.assoc))) ?_
      refine kt_d rfl rfl rfl (v_fb fa_53_1) ?_
      refine kt_d rfl rfl rfl (v_ldb Tryd.isAgg51) ?_
      refine kt_d rfl rfl rfl (v_fb fa_32_1) ?_
      refine kt_d rfl rfl rfl (v_ldb Tryd.isAgg30) ?_
      refine kt_d rfl rfl rfl (v_mv) ?_
      refine kt_d rfl rfl rfl (v_ia ej17 nj17 Tryd.runUnderlying30 Tryd.sizeOf36) ?_
      refine kt_d rfl rfl rfl (v_fa nj17 fa_36_0) ?_
      refine kt_d rfl rfl rfl (v_ldf nj17 Tryd.isAgg3) ?_
      refine kt_d rfl rfl rfl (v_fb fa_32_1) ?_
      refine kt_d rfl rfl rfl (v_ldb Tryd.isAgg30) ?_
      refine kt_d rfl rfl rfl (v_mv) ?_
      refine kt_d rfl rfl rfl (v_ia ej17 nj17 Tryd.runUnderlying30 Tryd.sizeOf36) ?_
      refine kt_d rfl rfl rfl (v_fa nj17 fa_36_1) ?_
      refine kt_d rfl rfl rfl (v_ldf nj17 Tryd.isAgg3) ?_
      refine kt_d rfl rfl rfl (v_bd [(0, _), (1, _)] [_, _, .int .i64 0, .int .i64 0, .int .i64 0] Tryd.zeroValue55 Tryd.runUnderlying55 pl_55) ?_
      refine kt_one ?_
      refine kl_k rfl rfl (n_lit (enc := encLeg) [_] ([(⟨(gx m0.aw j17).f, (gx m0.aw j17).t, 0, 0, 0⟩ : Leg)] : List Leg) Tryd.runUnderlying51 Tryd.sizeOf55 Tryd.zeroValue55 (fun a18 => ?_))
      refine ⟨.inl (by (repeat (first | exact Sub.refl _ | exact Sub.nil _ | refine Sub.chunk (by repeat (first | exact Pick.here | apply Pick.there | apply Pick.seg)) (by rfl) ?_ | refine Sub.seg (by repeat (first | exact PickSeg.here | exact PickSeg.all | apply PickSeg.there | apply PickSeg.seg)) ?_ | exact Sub.seg0 (by repeat (first | exact PickSeg.here | exact PickSeg.all | apply PickSeg.there | apply PickSeg.seg)) | apply Sub.assoc))), ?_⟩
      refine kt_one ?_
      refine kl_k rfl rfl (n_app (enc := encLeg) ok_encLeg hz19 Tryd.underlying51 Tryd.type55 (by decide) (fun a20 c21 => ?_))
      refine ⟨.inl (by (repeat (first | exact Sub.refl _ | exact Sub.nil _ | refine Sub.chunk (by repeat (first | exact Pick.here | apply Pick.there | apply Pick.seg)) (by rfl) ?_ | refine Sub.seg (by repeat (first | exact PickSeg.here | exact PickSeg.all | apply PickSeg.there | apply PickSeg.seg)) ?_ | exact Sub.seg0 (by repeat (first | exact PickSeg.here | exact PickSeg.all | apply PickSeg.there | apply PickSeg.seg)) | apply Sub.assoc))), ?_⟩
      refine kt_d rfl rfl rfl (v_fb fa_53_1) ?_
      refine kt_one ?_
      refine kl_k rfl rfl (s_b (e' := [.int .i64 m0.p, .slice a20 ((legs10 ++ ([(⟨(gx m0.aw j17).f, (gx m0.aw j17).t, 0, 0, 0⟩ : Leg)] : List Leg)).length) c21]) Tryd.sizeOf51 ?_)
      refine ⟨.inr ⟨by decide, rfl⟩, ?_⟩
      refine kt_nil ?_
      refine kn_block ?_
      refine kn_then ?_
      refine kwp_region ?_
      refine kd (v_mv) ?_
      refine kd (v_add) ?_
      refine kd (v_as) ?_
      refine kops_nil ?_
      refine kn_then ?_
      obtain rfl := e_some h12
      exact ⟨_, (a20, (legs10 ++ ([(⟨(gx m0.aw j17).f, (gx m0.aw j17).t, 0, 0, 0⟩ : Leg)] : List Leg)).length, c21), rfl, hd_mk trivial⟩
    ·
      replace h12 := e_f h12 hc16
      refine kwp_exit ?_
      refine ke_then ?_
      obtain rfl := e_some h12
      refine k_out ?_ rfl
      rintro rfl
      refine ke_block ?_
      exact ⟨(legs10a, legs10.length, legs10c), hd_mk trivial⟩
  · intro legs5 y23 _ h24
    obtain ⟨legs5a, legs5n, legs5c⟩ := y23
    refine k_len (c := legs5c) (fun hl25 => ?_)
    subst hl25
    refine kwp_seq ?_
    refine kwp_region ?_
    refine kd (v_ldB Tryd.isAgg53 Tryd.sizeOf53) ?_
    refine kk (s_B (e' := [.int .i64 m0.p, .slice legs5a legs5.length legs5c]) Tryd.sizeOf53 ?_)
    refine kops_nil ?_
    refine kn_then ?_
    refine kwp_ret ?_
    obtain rfl := e_some h24
    refine rc Tryd.isAgg53 Tryd.sizeOf53 [⟨.slice legs5a (legs5.length) legs5c, 5, legs5.map encLeg⟩] ?_
    exact ⟨legs5a, legs5c, rfl, rfl⟩

end Go.Proofs.YtpfijnklnljccaaDoor
