/- What the plain programs return, the functions of the program return; no condition. -/
import Derived.Test.YtnibfmofkamjoaaDoorZQ
import Derived.Test.YtnibfmofkamjoaaDoorZFa
import Derived.Test.YtnibfmofkamjoaaDoorZVbp
import Derived.Test.YtnibfmofkamjoaaDoorZVbd
namespace Go.Proofs.YtnibfmofkamjoaaDoor
open Go
set_option linter.unusedVariables false
set_option linter.unusedSimpArgs false

set_option maxRecDepth 20000 in
theorem w_impl_Links (s01a : Option Addr) (s01n : Nat) (s01c : Nat) {s0 : Survey} {r : List (List Int)} (h : p_impl_Links s0 = some r) :
    Triple Tryd.prog 36 [.agg #[.int .i64 s0.st, .slice s01a s01n s01c]] [⟨.slice s01a s01n s01c, 5, s0.legs.map encLeg⟩] [] (fun v ch => ∃ (w0a : Option Addr) (w0c : Nat) (w0R : List Row), v = .slice w0a r.length w0c ∧ nums w0R = r ∧ ch = (⟨.slice w0a r.length w0c, 1, w0R.map encRow⟩ :: (rowsC w0R))) := by
  refine triple_start 28 Tryd.func36 Tryd.ntmps36 rfl rfl (fun w0 => ?_)
  refine k_len (c := s01c) (fun hl1 => ?_)
  subst hl1
  unfold p_impl_Links at h
  refine kwp_seq ?_
  refine kwp_region ?_
  refine kk (n_box (e := [.int .i64 s0.st, .slice s01a s0.legs.length s01c]) 2 (fun p1_2 => ?_))
  refine kops_nilM (fun R3 hR3 => ?_)
  refine kd (v_as) ?_
  refine kops_nil ?_
  refine kn_then ?_
  refine kwp_seq ?_
  refine kwp_seq ?_
  refine kwp_region ?_
  refine kd (v_ldB Tryd.isAgg25 Tryd.sizeOf25) ?_
  obtain ⟨v5, hv4, h⟩ := e_bind h
  refine kk (n_call Tryd.call29 (w_impl_SurveyValid s01a s0.legs.length s01c hv4) ?_)
  rintro _ _ ⟨rfl, rfl⟩
  refine kd (v_not) ?_
  refine kops_nil ?_
  refine kn_then ?_
  refine kwp_cond rfl (fun hc7 => ?_) (fun hc7 => ?_)
  ·
    replace h := e_t h hc7
    refine kwp_seq ?_
    refine kwp_region ?_
    refine kops_nilM (fun R8 hR8 => ?_)
    refine kd (v_as) ?_
    refine kops_nil ?_
    refine kn_then ?_
    refine kwp_ret ?_
    refine kr_then ?_
    obtain rfl := e_some h
    refine r1 (⟨.slice none 0 0, 1, R8.map encRow⟩ :: (rowsC R8)) ?_
    exact ⟨none, 0, R8, rfl, hR8, rfl⟩
  ·
    replace h := e_f h hc7
    refine kwp_skip ?_
    refine kn_then ?_
    refine kwp_seq ?_
    refine kwp_region ?_
    refine kd (v_fb fa_25_0) ?_
    refine kd (v_ldb Tryd.isAgg3) ?_
    refine kd (v_sub) ?_
    obtain ⟨v10, hv9, h⟩ := e_bind h
    refine kk (n_call Tryd.call84 (w_impl_squareOf hv9) ?_)
    rintro _ _ ⟨q11a, q11c, q11R, rfl, hq11R, rfl⟩
    refine kd (v_as) ?_
    refine kops_nil ?_
    refine kn_then ?_
    refine kwp_seq ?_
    refine kwp_seq ?_
    refine kwp_region ?_
    refine kd (v_fb fa_25_1) ?_
    refine kd (v_ldb Tryd.isAgg23) ?_
    refine kd (v_len Tryd.runUnderlying23) ?_
    refine kd (v_mv) ?_
    refine kops_nil ?_
    refine kn_then ?_
    refine kwp_cutE (inv := [(3, .slice q11a v10.length q11c)]) (fun (z : List (List Int)) (y : List Row) => []) (fun (z : List (List Int)) (y : List Row) => (⟨.slice q11a v10.length q11c, 1, y.map encRow⟩ :: (rowsC y))) (fun (z : List (List Int)) (y : List Row) => nums y = z ∧ True) h ?_ ?_
    · intro t15 h13
      refine kwp_block ?_
      refine kwp_loopE (inv := [(3, .slice q11a v10.length q11c), (14, .slice s01a s0.legs.length s01c), (15, .int .i64 ((s0.legs.length : Nat) : Int))]) (fun (z : Int × List (List Int)) (y : List Row) => [(16, .int .i64 z.1)]) (fun (z : Int × List (List Int)) (y : List Row) => (⟨.slice q11a v10.length q11c, 1, y.map encRow⟩ :: (rowsC y))) (fun (z : Int × List (List Int)) (y : List Row) => nums y = z.2 ∧ True) h13 ⟨q11R, hd_mk ⟨hq11R, trivial⟩⟩ ?_
      intro z20 m17R b18 hp22 h19
      obtain ⟨x16, m17⟩ := z20
      obtain ⟨hm17R, _⟩ := hp22
      refine k_lenM (m := m17) hm17R (fun hl23 => ?_)
      unfold p_impl_Links_L0 at h19
      refine kwp_seq ?_
      refine kwp_region ?_
      refine kd (v_cmp) ?_
      refine kops_nil ?_
      refine kn_then ?_
      refine kwp_seq ?_
      refine kwp_cond rfl (fun hc24 => ?_) (fun hc24 => ?_)
      ·
        replace h19 := e_t h19 hc24
        refine kwp_skip ?_
        refine kn_then ?_
        refine kwp_seq ?_
        refine kwp_block ?_
        refine kwp_seq ?_
        refine kwp_region ?_
        obtain ⟨j25, ej25, nj25, h19⟩ := e_idx h19
        refine kd (v_ia ej25 nj25 Tryd.runUnderlying23 Tryd.sizeOf48) ?_
        refine kd (v_lda (e := [_, _, _, _, _]) nj25 Tryd.isAgg48 Tryd.sizeOf48) ?_
        refine kk (n_alloc (e := [.int .i64 0, .int .i64 0, .int .i64 0, .int .i64 0, .int .i64 0]) 5 Tryd.zeroValue48 (fun p5_26 => ?_))
        refine kk (s_B (e' := [.int .i64 ((gx s0.legs j25).f), .int .i64 ((gx s0.legs j25).t), .int .i64 ((gx s0.legs j25).e), .int .i64 ((gx s0.legs j25).n), .int .i64 ((gx s0.legs j25).u)]) Tryd.sizeOf48 ?_)
        refine kops_nil ?_
        refine kn_then ?_
        refine kwp_region ?_
        refine kd (v_mv) ?_
        refine kd (v_fb fa_48_0) ?_
        refine kd (v_ldb Tryd.isAgg3) ?_
        refine kd (v_fb fa_48_1) ?_
        refine kd (v_ldb Tryd.isAgg3) ?_
        obtain ⟨v28, hv27, h19⟩ := e_bind h19
        refine kk (n_call Tryd.call85 (w_impl_addLink q11a v10.length q11c m17R hm17R hv27) ?_)
        rintro _ _ ⟨R29, rfl, hR29, rfl⟩
        refine kops_nil ?_
        refine kn_block ?_
        refine kn_then ?_
        refine kwp_region ?_
        refine kd (v_add) ?_
        refine kd (v_mv) ?_
        refine kops_nil ?_
        refine kn_then ?_
        obtain rfl := e_some h19
        exact ⟨_, R29, rfl, hd_mk ⟨hR29, trivial⟩⟩
      ·
        replace h19 := e_f h19 hc24
        refine kwp_exit ?_
        refine ke_then ?_
        obtain rfl := e_some h19
        refine k_out ?_ rfl
        rintro rfl
        refine ke_block ?_
        exact ⟨m17R, hd_mk ⟨hm17R, trivial⟩⟩
    · intro m12 m12R hp33 h32
      obtain ⟨hm12R, _⟩ := hp33
      refine k_lenM (m := m12) hm12R (fun hl34 => ?_)
      refine kwp_seq ?_
      refine kwp_region ?_
      refine kd (v_mv) ?_
      refine kd (v_as) ?_
      refine kops_nil ?_
      refine kn_then ?_
      refine k_lenM (c := q11c) hm12R (fun hl35 => ?_)
      refine kwp_ret ?_
      obtain rfl := e_some h32
      refine r1 (⟨.slice q11a v10.length q11c, 1, m12R.map encRow⟩ :: (rowsC m12R)) ?_
      exact ⟨q11a, q11c, m12R, by first | rfl | (rw [← hl35] <;> rfl) | ((try dsimp only); rw [← hl35] <;> rfl) | (simp; done), hm12R, by first | rfl | (rw [← hl35] <;> rfl) | ((try dsimp only); rw [← hl35] <;> rfl) | (simp; done)⟩

end Go.Proofs.YtnibfmofkamjoaaDoor
