/- What the plain programs return, the functions of the program return; no condition. -/
import Derived.Test.YtkhjbfngafebeaaZQ
import Derived.Test.YtkhjbfngafebeaaZFa
import Derived.Test.YtkhjbfngafebeaaZVbp
import Derived.Test.YtkhjbfngafebeaaZVbd
namespace Go.Proofs.Ytkhjbfngafebeaa
open Go
set_option linter.unusedVariables false
set_option linter.unusedSimpArgs false

set_option maxRecDepth 20000 in
theorem w_impl_Links (s01a : Option Addr) (s01n : Nat) (s01c : Nat) {s0 : Survey} {r : List (List Int)} (h : p_impl_Links s0 = some r) :
    Triple Try.prog 31 [.agg #[.int .i64 s0.st, .slice s01a s01n s01c]] [⟨.slice s01a s01n s01c, 5, s0.legs.map encLeg⟩] [] (fun v ch => ∃ (w0a : Option Addr) (w0c : Nat) (w0R : List Row), v = .slice w0a r.length w0c ∧ nums w0R = r ∧ ch = (⟨.slice w0a r.length w0c, 1, w0R.map encRow⟩ :: (rowsC w0R))) := by
  refine triple_start 28 Try.func31 Try.ntmps31 rfl rfl (fun w0 => ?_)
  refine k_len (c := s01c) (fun hl1 => ?_)
  subst hl1
  unfold p_impl_Links at h
  refine kwp_seq ?_
  refine kwp_region ?_
  refine kk (n_box (e := [.int .i64 s0.st, .slice s01a s0.legs.length s01c]) 2 (fun p1_2 => ?_))
  refine kops_nilM (fun R3 hR3 => ?_)
  refine kd (v_as) ?_
  refine kops_nil ?_
  refine kn_then ?_
  refine kwp_seq ?_
  refine kwp_seq ?_
  refine kwp_region ?_
  refine kd (v_ldB Try.isAgg33 Try.sizeOf33) ?_
  obtain ⟨v5, hv4, h⟩ := e_bind h
  refine kk (n_call Try.call29 (w_impl_SurveyValid s01a s0.legs.length s01c hv4) ?_)
  rintro _ _ ⟨rfl, rfl⟩
  refine kd (v_not) ?_
  refine kops_nil ?_
  refine kn_then ?_
  refine kwp_cond rfl (fun hc7 => ?_) (fun hc7 => ?_)
  ·
    replace h := e_t h hc7
    refine kwp_seq ?_
    refine kwp_region ?_
    refine kops_nilM (fun R8 hR8 => ?_)
    refine kd (v_as) ?_
    refine kops_nil ?_
    refine kn_then ?_
    refine kwp_ret ?_
    refine kr_then ?_
    obtain rfl := e_some h
    refine r1 (⟨.slice none 0 0, 1, R8.map encRow⟩ :: (rowsC R8)) ?_
    exact ⟨none, 0, R8, rfl, hR8, rfl⟩
  ·
    replace h := e_f h hc7
    refine kwp_skip ?_
    refine kn_then ?_
    refine kwp_seq ?_
    refine kwp_region ?_
    refine kd (v_fb fa_33_0) ?_
    refine kd (v_ldb Try.isAgg3) ?_
    refine kd (v_sub) ?_
    obtain ⟨v10, hv9, h⟩ := e_bind h
    refine kk (n_call Try.call55 (w_impl_squareOf hv9) ?_)
    rintro _ _ ⟨q11a, q11c, q11R, rfl, hq11R, rfl⟩
    refine kd (v_as) ?_
    refine kops_nil ?_
    refine kn_then ?_
    refine kwp_seq ?_
    refine kwp_seq ?_
    refine kwp_region ?_
    refine kd (v_fb fa_33_1) ?_
    refine kd (v_ldb Try.isAgg31) ?_
    refine kd (v_len Try.runUnderlying31) ?_
    refine kd (v_mv) ?_
    refine kops_nil ?_
    refine kn_then ?_
    refine kwp_cutE (inv := [(3, .slice q11a v10.length q11c)]) (fun (z : List (List Int)) (y : List Row) => []) (fun (z : List (List Int)) (y : List Row) => (⟨.slice q11a v10.length q11c, 1, y.map encRow⟩ :: (rowsC y))) (fun (z : List (List Int)) (y : List Row) => nums y = z ∧ True) h ?_ ?_
    · intro t15 h13
      refine kwp_block ?_
      refine kwp_loopE (inv := [(3, .slice q11a v10.length q11c), (14, .slice s01a s0.legs.length s01c), (15, .int .i64 ((s0.legs.length : Nat) : Int))]) (fun (z : Int × List (List Int)) (y : List Row) => [(16, .int .i64 z.1)]) (fun (z : Int × List (List Int)) (y : List Row) => (⟨.slice q11a v10.length q11c, 1, y.map encRow⟩ :: (rowsC y))) (fun (z : Int × List (List Int)) (y : List Row) => nums y = z.2 ∧ True) h13 ⟨q11R, hd_mk ⟨hq11R, trivial⟩⟩ ?_
      intro z20 m17R b18 hp22 h19
      obtain ⟨x16, m17⟩ := z20
      obtain ⟨hm17R, _⟩ := hp22
      refine k_lenM (m := m17) hm17R (fun hl23 => ?_)
      unfold p_impl_Links_L0 at h19
      refine kwp_seq ?_
      refine kwp_region ?_
      refine kd (v_cmp) ?_
      refine kops_nil ?_
      refine kn_then ?_
      refine kwp_seq ?_
      refine kwp_cond rfl (fun hc24 => ?_) (fun hc24 => ?_)
      ·
        replace h19 := e_t h19 hc24
        refine kwp_skip ?_
        refine kn_then ?_
        refine kwp_seq ?_
        refine kwp_block ?_
        refine kwp_seq ?_
        refine kwp_region ?_
        obtain ⟨j25, ej25, nj25, h19⟩ := e_idx h19
        refine kd (v_ia ej25 nj25 Try.runUnderlying31 Try.sizeOf58) ?_
        refine kd (v_lda (e := [_, _, _, _, _]) nj25 Try.isAgg58 Try.sizeOf58) ?_
        refine kk (n_alloc (e := [.int .i64 0, .int .i64 0, .int .i64 0, .int .i64 0, .int .i64 0]) 5 Try.zeroValue58 (fun p5_26 => ?_))
        refine kk (s_B (e' := [.int .i64 ((gx s0.legs j25).f), .int .i64 ((gx s0.legs j25).t), .int .i64 ((gx s0.legs j25).e), .int .i64 ((gx s0.legs j25).n), .int .i64 ((gx s0.legs j25).u)]) Try.sizeOf58 ?_)
        refine kops_nil ?_
        refine kn_then ?_
        refine kwp_region ?_
        refine kd (v_mv) ?_
        refine kd (v_fb fa_58_0) ?_
        refine kd (v_ldb Try.isAgg3) ?_
        refine kd (v_fb fa_58_1) ?_
        refine kd (v_ldb Try.isAgg3) ?_
        obtain ⟨v28, hv27, h19⟩ := e_bind h19
        refine kk (n_call Try.call56 (w_impl_addLink q11a v10.length q11c m17R hm17R hv27) ?_)
        rintro _ _ ⟨R29, rfl, hR29, rfl⟩
        refine kops_nil ?_
        refine kn_block ?_
        refine kn_then ?_
        refine kwp_region ?_
        refine kd (v_add) ?_
        refine kd (v_mv) ?_
        refine kops_nil ?_
        refine kn_then ?_
        obtain rfl := e_some h19
        exact ⟨_, R29, rfl, hd_mk ⟨hR29, trivial⟩⟩
      ·
        replace h19 := e_f h19 hc24
        refine kwp_exit ?_
        refine ke_then ?_
        obtain rfl := e_some h19
        refine k_out ?_ rfl
        rintro rfl
        refine ke_block ?_
        exact ⟨m17R, hd_mk ⟨hm17R, trivial⟩⟩
    · intro m12 m12R hp33 h32
      obtain ⟨hm12R, _⟩ := hp33
      refine k_lenM (m := m12) hm12R (fun hl34 => ?_)
      refine kwp_seq ?_
      refine kwp_region ?_
      refine kd (v_mv) ?_
      refine kd (v_as) ?_
      refine kops_nil ?_
      refine kn_then ?_
      refine k_lenM (c := q11c) hm12R (fun hl35 => ?_)
      refine kwp_ret ?_
      obtain rfl := e_some h32
      refine r1 (⟨.slice q11a v10.length q11c, 1, m12R.map encRow⟩ :: (rowsC m12R)) ?_
      exact ⟨q11a, q11c, m12R, by first | rfl | (rw [← hl35] <;> rfl) | ((try dsimp only); rw [← hl35] <;> rfl) | (simp; done), hm12R, by first | rfl | (rw [← hl35] <;> rfl) | ((try dsimp only); rw [← hl35] <;> rfl) | (simp; done)⟩

set_option maxRecDepth 20000 in
set_option maxHeartbeats 2000000 in
theorem w_spec_Links (s01a : Option Addr) (s01n : Nat) (s01c : Nat) {s0 : Survey} {r : List (List Int)} (h : p_spec_Links s0 = some r) :
    Triple Try.prog 25 [.agg #[.int .i64 s0.st, .slice s01a s01n s01c]] [⟨.slice s01a s01n s01c, 5, s0.legs.map encLeg⟩] [] (fun v ch => ∃ (w0a : Option Addr) (w0c : Nat) (w0R : List Row), v = .slice w0a r.length w0c ∧ nums w0R = r ∧ ch = (⟨.slice w0a r.length w0c, 1, w0R.map encRow⟩ :: (rowsC w0R))) := by
  refine triple_start 75 Try.func25 Try.ntmps25 rfl rfl (fun w0 => ?_)
  refine k_len (c := s01c) (fun hl1 => ?_)
  subst hl1
  unfold p_spec_Links at h
  refine kwp_seq ?_
  refine kwp_region ?_
  refine kk (n_box (e := [.int .i64 s0.st, .slice s01a s0.legs.length s01c]) 2 (fun p1_2 => ?_))
  refine kops_nilM (fun R3 hR3 => ?_)
  refine kd (v_as) ?_
  refine kops_nil ?_
  refine kn_then ?_
  refine kwp_seq ?_
  refine kwp_region ?_
  refine kk (n_litM Try.runUnderlying49 Try.sizeOf40 Try.zeroValue40 (fun a4 R5 hR5 => ?_))
  refine kd (v_as) ?_
  refine kops_nil ?_
  refine kn_then ?_
  refine kwp_seq ?_
  refine kwp_seq ?_
  refine kwp_region ?_
  refine kd (v_as) ?_
  refine kops_nil ?_
  refine kn_then ?_
  refine kwp_cutE (inv := []) (fun (z : List (List Int)) (y : Option Addr × Nat × Nat × List Row) => [(3, .slice y.1 y.2.1 y.2.2.1)]) (fun (z : List (List Int)) (y : Option Addr × Nat × Nat × List Row) => (⟨.slice y.1 y.2.1 y.2.2.1, 1, y.2.2.2.map encRow⟩ :: (rowsC y.2.2.2))) (fun (z : List (List Int)) (y : Option Addr × Nat × Nat × List Row) => nums y.2.2.2 = z ∧ True) h ?_ ?_
  · intro t9 h7
    refine kwp_block ?_
    refine kwp_loopE (inv := [(1, .pointer (some p1_2))]) (fun (z : List (List Int) × Int) (y : Option Addr × Nat × Nat × List Row) => [(3, .slice y.1 y.2.1 y.2.2.1), (4, .int .i64 z.2)]) (fun (z : List (List Int) × Int) (y : Option Addr × Nat × Nat × List Row) => (⟨.slice y.1 y.2.1 y.2.2.1, 1, y.2.2.2.map encRow⟩ :: ⟨.pointer (some p1_2), 2, [[.int .i64 s0.st, .slice s01a s0.legs.length s01c]]⟩ :: (rowsC y.2.2.2))) (fun (z : List (List Int) × Int) (y : Option Addr × Nat × Nat × List Row) => nums y.2.2.2 = z.1 ∧ True) h7 ⟨(some a4, 0, 0, R5), hd_mk ⟨hR5, trivial⟩⟩ ?_
    intro z14 y15 b12 hp16 h13
    obtain ⟨out10, a11⟩ := z14
    obtain ⟨out10a, out10n, out10c, out10R⟩ := y15
    obtain ⟨hout10R, _⟩ := hp16
    refine k_lenM (c := out10c) (m := out10) hout10R (fun hl17 => ?_)
    subst hl17
    unfold p_spec_Links_L0 at h13
    refine kwp_seq ?_
    refine kwp_seq ?_
    refine kwp_cutE (inv := [(1, .pointer (some p1_2)), (3, .slice out10a out10.length out10c), (4, .int .i64 a11)]) (fun (z : Bool) (y : Unit) => [(16, .bool z)]) (fun (z : Bool) (y : Unit) => (⟨.pointer (some p1_2), 2, [[.int .i64 s0.st, .slice s01a s0.legs.length s01c]]⟩ :: ⟨.slice out10a (out10.length) out10c, 1, out10R.map encRow⟩ :: (rowsC out10R))) (fun _ _ => True) h13 ?_ ?_
    · intro t21 h19
      refine kwp_region ?_
      refine kd (v_mv) ?_
      refine kd (v_fb fa_33_0) ?_
      refine kd (v_ldb Try.isAgg3) ?_
      refine kd (v_cmp) ?_
      refine kd (v_mv) ?_
      refine kops_split 13 rfl (fun hb22 => ?_) (fun hb22 => ?_)
      ·
        replace h19 := e_t h19 hb22
        refine kgd hb22 (v_ldB Try.isAgg33 Try.sizeOf33) ?_
        obtain ⟨v24, hv23, h19⟩ := e_bind h19
        refine kgk hb22 (n_call Try.call23 (w_spec_SurveyValid s01a s0.legs.length s01c hv23) ?_)
        rintro _ _ ⟨rfl, rfl⟩
        refine kd (v_pt hb22) ?_
        refine kops_nil ?_
        refine kn_then ?_
        obtain rfl := e_some h19
        exact ⟨(), hd_mk trivial⟩
      ·
        replace h19 := e_f h19 hb22
        refine kskip hb22 ?_
        refine kskip hb22 ?_
        refine kd (v_pf hb22) ?_
        refine kops_nil ?_
        refine kn_then ?_
        obtain rfl := e_some h19
        exact ⟨(), hd_mk trivial⟩
    · intro x18 y27 _ h28
      refine kn_then ?_
      refine kwp_cond rfl (fun hc29 => ?_) (fun hc29 => ?_)
      ·
        replace h28 := e_t h28 hc29
        refine kwp_skip ?_
        refine kn_then ?_
        refine kwp_seq ?_
        refine kwp_block ?_
        refine kwp_seq ?_
        refine kwp_region ?_
        refine kd (v_fb fa_33_0) ?_
        refine kd (v_ldb Try.isAgg3) ?_
        refine kd (v_sub) ?_
        obtain ⟨j30, ej30, nj30, h28⟩ := e_sized h28
        refine kk (n_make (enc := encI) 0 ej30 nj30 Try.underlying40 Try.type3 (by decide) (fun a31 => ?_))
        refine kd (v_as) ?_
        refine kops_nil ?_
        refine kn_then ?_
        refine kwp_seq ?_
        refine kwp_seq ?_
        refine kwp_region ?_
        refine kd (v_as) ?_
        refine kops_nil ?_
        refine kn_then ?_
        refine kwp_cutE (inv := [(1, .pointer (some p1_2)), (3, .slice out10a out10.length out10c), (4, .int .i64 a11), (5, .slice (some a31) j30 j30)]) (fun (z : List Int) (y : Unit) => []) (fun (z : List Int) (y : Unit) => (⟨.slice (some a31) j30 j30, 1, z.map encI⟩ :: ⟨.pointer (some p1_2), 2, [[.int .i64 s0.st, .slice s01a s0.legs.length s01c]]⟩ :: ⟨.slice out10a (out10.length) out10c, 1, out10R.map encRow⟩ :: (rowsC out10R))) (fun _ _ => True) h28 ?_ ?_
        · intro t35 h33
          refine kwp_block ?_
          refine kwp_loopE (inv := [(1, .pointer (some p1_2)), (3, .slice out10a out10.length out10c), (4, .int .i64 a11), (5, .slice (some a31) j30 j30)]) (fun (z : Int × List Int) (y : Unit) => [(6, .int .i64 z.1)]) (fun (z : Int × List Int) (y : Unit) => (⟨.slice (some a31) j30 j30, 1, z.2.map encI⟩ :: ⟨.pointer (some p1_2), 2, [[.int .i64 s0.st, .slice s01a s0.legs.length s01c]]⟩ :: ⟨.slice out10a (out10.length) out10c, 1, out10R.map encRow⟩ :: (rowsC out10R))) (fun _ _ => True) h33 ⟨(), hd_mk trivial⟩ ?_
          intro z40 y41 b38 _ h39
          obtain ⟨k36, l37⟩ := z40
          unfold p_spec_Links_L1 at h39
          refine kwp_seq ?_
          refine kwp_seq ?_
          refine kwp_region ?_
          refine kd (v_mv) ?_
          refine kd (v_fb fa_33_1) ?_
          refine kd (v_ldb Try.isAgg31) ?_
          refine kd (v_len Try.runUnderlying31) ?_
          refine kd (v_cmp) ?_
          refine kops_nil ?_
          refine kn_then ?_
          refine kwp_cond rfl (fun hc42 => ?_) (fun hc42 => ?_)
          ·
            replace h39 := e_t h39 hc42
            refine kwp_skip ?_
            refine kn_then ?_
            refine kwp_seq ?_
            refine kwp_block ?_
            refine kwp_seq ?_
            refine kwp_region ?_
            refine kd (v_fb fa_33_1) ?_
            refine kd (v_ldb Try.isAgg31) ?_
            refine kd (v_mv) ?_
            obtain ⟨j43, ej43, nj43, h39⟩ := e_idx h39
            refine kd (v_ia ej43 nj43 Try.runUnderlying31 Try.sizeOf58) ?_
            refine kd (v_lda (e := [_, _, _, _, _]) nj43 Try.isAgg58 Try.sizeOf58) ?_
            refine kk (n_alloc (e := [.int .i64 0, .int .i64 0, .int .i64 0, .int .i64 0, .int .i64 0]) 5 Try.zeroValue58 (fun p7_44 => ?_))
            refine kk (s_B (e' := [.int .i64 ((gx s0.legs j43).f), .int .i64 ((gx s0.legs j43).t), .int .i64 ((gx s0.legs j43).e), .int .i64 ((gx s0.legs j43).n), .int .i64 ((gx s0.legs j43).u)]) Try.sizeOf58 ?_)
            refine kops_nil ?_
            refine kn_then ?_
            refine kwp_seq ?_
            refine kwp_seq ?_
            refine kwp_region ?_
            refine kd (v_fb fa_58_1) ?_
            refine kd (v_ldb Try.isAgg3) ?_
            refine kd (v_mv) ?_
            refine kd (v_cmp) ?_
            refine kops_nil ?_
            refine kn_then ?_
            refine kwp_cutE (inv := [(1, .pointer (some p1_2)), (3, .slice out10a out10.length out10c), (4, .int .i64 a11), (5, .slice (some a31) j30 j30), (6, .int .i64 k36), (7, .pointer (some p7_44))]) (fun (z : Int × Int × Int × Int × Int) (y : Unit) => []) (fun (z : Int × Int × Int × Int × Int) (y : Unit) => (⟨.pointer (some p7_44), 5, [[.int .i64 z.1, .int .i64 z.2.1, .int .i64 z.2.2.1, .int .i64 z.2.2.2.1, .int .i64 z.2.2.2.2]]⟩ :: ⟨.pointer (some p1_2), 2, [[.int .i64 s0.st, .slice s01a s0.legs.length s01c]]⟩ :: ⟨.slice out10a (out10.length) out10c, 1, out10R.map encRow⟩ :: ⟨.slice (some a31) j30 j30, 1, l37.map encI⟩ :: (rowsC out10R))) (fun _ _ => True) h39 ?_ ?_
            · intro t52 h50
              refine kwp_cond rfl (fun hc53 => ?_) (fun hc53 => ?_)
              ·
                replace h50 := e_t h50 hc53
                refine kwp_region ?_
                refine kd (v_ldB Try.isAgg58 Try.sizeOf58) ?_
                obtain ⟨v55, hv54, h50⟩ := e_bind h50
                refine kk (n_call Try.call48 (w_spec_LegBack hv54) ?_)
                rintro _ _ ⟨rfl, rfl⟩
                refine kk (s_B (e' := [.int .i64 v55.f, .int .i64 v55.t, .int .i64 v55.e, .int .i64 v55.n, .int .i64 v55.u]) Try.sizeOf58 ?_)
                refine kops_nil ?_
                refine kn_then ?_
                obtain rfl := e_some h50
                exact ⟨(), hd_mk trivial⟩
              ·
                replace h50 := e_f h50 hc53
                refine kwp_skip ?_
                refine kn_then ?_
                obtain rfl := e_some h50
                exact ⟨(), hd_mk trivial⟩
            · intro z57 y58 _ h59
              obtain ⟨f45, t46, e47, n48, u49⟩ := z57
              refine kn_then ?_
              refine kwp_seq ?_
              refine kwp_region ?_
              refine kd (v_fb fa_58_0) ?_
              refine kd (v_ldb Try.isAgg3) ?_
              refine kd (v_mv) ?_
              refine kd (v_cmp) ?_
              refine kops_nil ?_
              refine kn_then ?_
              refine kwp_cond rfl (fun hc60 => ?_) (fun hc60 => ?_)
              ·
                replace h59 := e_t h59 hc60
                refine kwp_seq ?_
                refine kwp_region ?_
                refine kd (v_mv) ?_
                refine kd (v_mv) ?_
                refine kd (v_sub) ?_
                refine kd (v_mv) ?_
                refine kd (v_mv) ?_
                refine kd (v_sub) ?_
                obtain ⟨j61, ej61, nj61, h59⟩ := e_idx h59
                refine kd (v_ia ej61 nj61 Try.runUnderlying40 Try.sizeOf3) ?_
                refine kd (v_ldf nj61 Try.isAgg3) ?_
                refine kd (v_add) ?_
                refine kd (v_ia ej61 nj61 Try.runUnderlying40 Try.sizeOf3) ?_
                refine kk (s_f (w64 ((gx l37 j61) + 1)) nj61 Try.sizeOf3 ?_)
                refine kops_nil ?_
                refine kn_then ?_
                refine kwp_seq ?_
                refine kwp_region ?_
                refine kd (v_fb fa_58_1) ?_
                refine kd (v_ldb Try.isAgg3) ?_
                refine kd (v_cmp) ?_
                refine kops_nil ?_
                refine kn_then ?_
                refine kwp_cond rfl (fun hc62 => ?_) (fun hc62 => ?_)
                ·
                  replace h59 := e_t h59 hc62
                  obtain ⟨j63, ej63, nj63, h59⟩ := e_idx h59
                  refine kwp_tree (.quiet 0 (.quiet 1 (.quiet 2 (.quiet 3 (.quiet 4 (.quiet 5 (.quiet 6 (.quiet 7 (.quiet 8 (.quiet 9 (.quiet 10 (.quiet 11 (.one 12 .stop))))))))))))) [12] [⟨.slice (some a31) j30 j30, 1, (l37.set j61 (w64 ((gx l37 j61) + 1))).map encI⟩, ⟨.pointer (some p7_44), 5, [[.int .i64 f45, .int .i64 t46, .int .i64 e47, .int .i64 n48, .int .i64 u49]]⟩] drawMixed (by kernel_rfl) nopan (by (repeat (first | exact Sub.refl _ | exact Sub.nil _ | refine Sub.chunk (by repeat (first | exact Pick.here | apply Pick.there | apply Pick.seg)) (by rfl) ?_ | refine Sub.seg (by repeat (first | exact PickSeg.here | exact PickSeg.all | apply PickSeg.there | apply PickSeg.seg)) ?_ | exact Sub.seg0 (by repeat (first | exact PickSeg.here | exact PickSeg.all | apply PickSeg.there | apply PickSeg.seg)) | apply Sub.assoc))) ?_
                  refine kt_d rfl rfl rfl (v_mv) ?_
                  refine kt_d rfl rfl rfl (v_fb fa_58_1) ?_
                  refine kt_d rfl rfl rfl (v_ldb Try.isAgg3) ?_
                  refine kt_d rfl rfl rfl (v_sub) ?_
                  refine kt_d rfl rfl rfl (v_mv) ?_
                  refine kt_d rfl rfl rfl (v_fb fa_58_1) ?_
                  refine kt_d rfl rfl rfl (v_ldb Try.isAgg3) ?_
                  refine kt_d rfl rfl rfl (v_sub) ?_
                  refine kt_d rfl rfl rfl (v_ia ej63 nj63 Try.runUnderlying40 Try.sizeOf3) ?_
                  refine kt_d rfl rfl rfl (v_ldf nj63 Try.isAgg3) ?_
                  refine kt_d rfl rfl rfl (v_sub) ?_
                  refine kt_d rfl rfl rfl (v_ia ej63 nj63 Try.runUnderlying40 Try.sizeOf3) ?_
                  refine kt_one ?_
                  refine kl_k rfl rfl (s_f (w64 ((gx (l37.set j61 (w64 ((gx l37 j61) + 1))) j63) - 1)) nj63 Try.sizeOf3 ?_)
                  refine ⟨.inr ⟨by decide, rfl⟩, ?_⟩
                  refine kt_nil ?_
                  refine kn_block ?_
                  refine kn_then ?_
                  refine kwp_region ?_
                  refine kd (v_mv) ?_
                  refine kd (v_add) ?_
                  refine kd (v_as) ?_
                  refine kops_nil ?_
                  refine kn_then ?_
                  obtain rfl := e_some h59
                  exact ⟨_, (), rfl, hd_mk trivial⟩
                ·
                  replace h59 := e_f h59 hc62
                  refine kwp_skip ?_
                  refine kn_block ?_
                  refine kn_then ?_
                  refine kwp_region ?_
                  refine kd (v_mv) ?_
                  refine kd (v_add) ?_
                  refine kd (v_as) ?_
                  refine kops_nil ?_
                  refine kn_then ?_
                  obtain rfl := e_some h59
                  exact ⟨_, (), rfl, hd_mk trivial⟩
              ·
                replace h59 := e_f h59 hc60
                refine kwp_skip ?_
                refine kn_block ?_
                refine kn_then ?_
                refine kwp_region ?_
                refine kd (v_mv) ?_
                refine kd (v_add) ?_
                refine kd (v_as) ?_
                refine kops_nil ?_
                refine kn_then ?_
                obtain rfl := e_some h59
                exact ⟨_, (), rfl, hd_mk trivial⟩
          ·
            replace h39 := e_f h39 hc42
            refine kwp_exit ?_
            refine ke_then ?_
            obtain rfl := e_some h39
            refine k_out ?_ rfl
            rintro rfl
            refine ke_block ?_
            exact ⟨(), hd_mk trivial⟩
        · intro l32 y65 _ h66
          refine kn_then ?_
          refine kwp_region ?_
          refine kd (v_mv) ?_
          refine kd (v_mv) ?_
          refine kk (n_lit (enc := fun v => v) [_] [[.slice (some a31) j30 j30]] Try.runUnderlying49 Try.sizeOf40 Try.zeroValue40 (fun a67 => ?_))
          obtain ⟨hz68, h66⟩ := e_need h66
          refine kk (n_appM (l := l32) hout10R hz68 Try.underlying49 Try.type40 (by decide) (fun a69 c70 R71 hR71 => ?_))
          refine kd (v_as) ?_
          refine kops_nil ?_
          refine kn_block ?_
          refine kn_then ?_
          refine kwp_region ?_
          refine kd (v_mv) ?_
          refine kd (v_add) ?_
          refine kd (v_as) ?_
          refine kops_nil ?_
          refine kn_then ?_
          obtain rfl := e_some h66
          exact ⟨_, (a69, (out10 ++ [l32]).length, c70, R71), rfl, hd_mk ⟨hR71, trivial⟩⟩
      ·
        replace h28 := e_f h28 hc29
        refine kwp_exit ?_
        refine ke_then ?_
        obtain rfl := e_some h28
        refine k_out ?_ rfl
        rintro rfl
        refine ke_block ?_
        exact ⟨(out10a, out10.length, out10c, out10R), hd_mk ⟨hout10R, trivial⟩⟩
  · intro out6 y73 hp75 h74
    obtain ⟨out6a, out6n, out6c, out6R⟩ := y73
    obtain ⟨hout6R, _⟩ := hp75
    refine k_lenM (c := out6c) (m := out6) hout6R (fun hl76 => ?_)
    subst hl76
    refine kwp_seq ?_
    refine kwp_region ?_
    refine kd (v_mv) ?_
    refine kd (v_as) ?_
    refine kops_nil ?_
    refine kn_then ?_
    refine kwp_ret ?_
    obtain rfl := e_some h74
    refine r1 (⟨.slice out6a (out6.length) out6c, 1, out6R.map encRow⟩ :: (rowsC out6R)) ?_
    exact ⟨out6a, out6c, out6R, rfl, hout6R, rfl⟩

end Go.Proofs.Ytkhjbfngafebeaa
