/- What the plain programs return, the functions of the program return; no condition. -/
import Derived.Test.YtkhjbfngafebeaaZQ
import Derived.Test.YtkhjbfngafebeaaZFa
import Derived.Test.YtkhjbfngafebeaaZVbp
namespace Go.Proofs.Ytkhjbfngafebeaa
open Go
set_option linter.unusedVariables false
set_option linter.unusedSimpArgs false

set_option maxRecDepth 20000 in
theorem w_impl_Parts (s01a : Option Addr) (s01n : Nat) (s01c : Nat) {s0 : Survey} {r : List Int} (h : p_impl_Parts s0 = some r) :
    Triple Try.prog 54 [.agg #[.int .i64 s0.st, .slice s01a s01n s01c]] [⟨.slice s01a s01n s01c, 5, s0.legs.map encLeg⟩] [] (fun v ch => ∃ (w0a : Option Addr) (w0c : Nat), v = .slice w0a r.length w0c ∧ ch = [⟨.slice w0a r.length w0c, 1, r.map encI⟩]) := by
  refine triple_start 27 Try.func54 Try.ntmps54 rfl rfl (fun w0 => ?_)
  refine k_len (c := s01c) (fun hl1 => ?_)
  subst hl1
  unfold p_impl_Parts at h
  refine kwp_seq ?_
  refine kwp_region ?_
  refine kk (n_box (e := [.int .i64 s0.st, .slice s01a s0.legs.length s01c]) 2 (fun p1_2 => ?_))
  refine kops_nilchunk 1 (by decide) ?_
  refine kd (v_as) ?_
  refine kops_nil ?_
  refine kn_then ?_
  refine kwp_seq ?_
  refine kwp_seq ?_
  refine kwp_region ?_
  refine kd (v_ldB Try.isAgg33 Try.sizeOf33) ?_
  obtain ⟨v4, hv3, h⟩ := e_bind h
  refine kk (n_call Try.call29 (w_impl_SurveyValid s01a s0.legs.length s01c hv3) ?_)
  rintro _ _ ⟨rfl, rfl⟩
  refine kd (v_not) ?_
  refine kops_nil ?_
  refine kn_then ?_
  refine kwp_cond rfl (fun hc6 => ?_) (fun hc6 => ?_)
  ·
    replace h := e_t h hc6
    refine kwp_seq ?_
    refine kwp_region ?_
    refine kops_nilchunk 1 (by decide) ?_
    refine kd (v_as) ?_
    refine kops_nil ?_
    refine kn_then ?_
    refine kwp_ret ?_
    refine kr_then ?_
    obtain rfl := e_some h
    refine r1 [⟨.slice none 0 0, 1, ([] : List Int).map encI⟩] ?_
    exact ⟨none, 0, rfl, rfl⟩
  ·
    replace h := e_f h hc6
    refine kwp_skip ?_
    refine kn_then ?_
    refine kwp_seq ?_
    refine kwp_region ?_
    refine kd (v_fb fa_33_0) ?_
    refine kd (v_ldb Try.isAgg3) ?_
    obtain ⟨v8, hv7, h⟩ := e_bind h
    refine kk (n_call Try.call66 (w_impl_ownParts hv7) ?_)
    rintro _ _ ⟨q9a, q9c, rfl, rfl⟩
    refine kd (v_as) ?_
    refine kops_nil ?_
    refine kn_then ?_
    refine kwp_seq ?_
    refine kwp_seq ?_
    refine kwp_region ?_
    refine kd (v_fb fa_33_1) ?_
    refine kd (v_ldb Try.isAgg31) ?_
    refine kd (v_len Try.runUnderlying31) ?_
    refine kd (v_mv) ?_
    refine kops_nil ?_
    refine kn_then ?_
    refine kwp_cutE (inv := [(3, .slice q9a v8.length q9c)]) (fun (z : List Int) (y : Unit) => []) (fun (z : List Int) (y : Unit) => [⟨.slice q9a v8.length q9c, 1, z.map encI⟩]) (fun _ _ => True) h ?_ ?_
    · intro t13 h11
      refine kwp_block ?_
      refine kwp_loopE (inv := [(3, .slice q9a v8.length q9c), (13, .slice s01a s0.legs.length s01c), (14, .int .i64 ((s0.legs.length : Nat) : Int))]) (fun (z : Int × List Int) (y : Unit) => [(15, .int .i64 z.1)]) (fun (z : Int × List Int) (y : Unit) => [⟨.slice q9a v8.length q9c, 1, z.2.map encI⟩]) (fun _ _ => True) h11 ⟨(), hd_mk trivial⟩ ?_
      intro z18 y19 b16 _ h17
      obtain ⟨x14, l15⟩ := z18
      unfold p_impl_Parts_L0 at h17
      refine kwp_seq ?_
      refine kwp_region ?_
      refine kd (v_cmp) ?_
      refine kops_nil ?_
      refine kn_then ?_
      refine kwp_seq ?_
      refine kwp_cond rfl (fun hc20 => ?_) (fun hc20 => ?_)
      ·
        replace h17 := e_t h17 hc20
        refine kwp_skip ?_
        refine kn_then ?_
        refine kwp_seq ?_
        refine kwp_block ?_
        refine kwp_seq ?_
        refine kwp_region ?_
        obtain ⟨j21, ej21, nj21, h17⟩ := e_idx h17
        refine kd (v_ia ej21 nj21 Try.runUnderlying31 Try.sizeOf58) ?_
        refine kd (v_lda (e := [_, _, _, _, _]) nj21 Try.isAgg58 Try.sizeOf58) ?_
        refine kk (n_alloc (e := [.int .i64 0, .int .i64 0, .int .i64 0, .int .i64 0, .int .i64 0]) 5 Try.zeroValue58 (fun p5_22 => ?_))
        refine kk (s_B (e' := [.int .i64 ((gx s0.legs j21).f), .int .i64 ((gx s0.legs j21).t), .int .i64 ((gx s0.legs j21).e), .int .i64 ((gx s0.legs j21).n), .int .i64 ((gx s0.legs j21).u)]) Try.sizeOf58 ?_)
        refine kops_nil ?_
        refine kn_then ?_
        refine kwp_region ?_
        refine kd (v_mv) ?_
        refine kd (v_fb fa_58_0) ?_
        refine kd (v_ldb Try.isAgg3) ?_
        refine kd (v_fb fa_58_1) ?_
        refine kd (v_ldb Try.isAgg3) ?_
        obtain ⟨⟨v24, v25⟩, hv23, h17⟩ := e_bind h17
        refine kk (n_call Try.call68 (w_impl_joinParts q9a v8.length q9c hv23) ?_)
        rintro _ _ ⟨rfl, rfl⟩
        refine kops_nil ?_
        refine kn_block ?_
        refine kn_then ?_
        refine kwp_region ?_
        refine kd (v_add) ?_
        refine kd (v_mv) ?_
        refine kops_nil ?_
        refine kn_then ?_
        obtain rfl := e_some h17
        exact ⟨_, (), rfl, hd_mk trivial⟩
      ·
        replace h17 := e_f h17 hc20
        refine kwp_exit ?_
        refine ke_then ?_
        obtain rfl := e_some h17
        refine k_out ?_ rfl
        rintro rfl
        refine ke_block ?_
        exact ⟨(), hd_mk trivial⟩
    · intro l10 y28 _ h29
      refine kn_then ?_
      refine kwp_seq ?_
      refine kwp_region ?_
      refine kd (v_mv) ?_
      refine kd (v_as) ?_
      refine kops_nil ?_
      refine kn_then ?_
      refine k_len (c := q9c) (fun hl30 => ?_)
      refine kwp_ret ?_
      obtain rfl := e_some h29
      refine r1 [⟨.slice q9a v8.length q9c, 1, l10.map encI⟩] ?_
      exact ⟨q9a, q9c, by first | rfl | (rw [← hl30] <;> rfl) | ((try dsimp only); rw [← hl30] <;> rfl) | (simp; done), by first | rfl | (rw [← hl30] <;> rfl) | ((try dsimp only); rw [← hl30] <;> rfl) | (simp; done)⟩

set_option maxRecDepth 20000 in
theorem w_impl_PartsMany (s01a : Option Addr) (s01n : Nat) (s01c : Nat) {s0 : Survey} {r : Int} (h : p_impl_PartsMany s0 = some r) :
    Triple Try.prog 30 [.agg #[.int .i64 s0.st, .slice s01a s01n s01c]] [⟨.slice s01a s01n s01c, 5, s0.legs.map encLeg⟩] [] (fun v ch => v = .int .i64 r ∧ ch = []) := by
  refine triple_start 9 Try.func30 Try.ntmps30 rfl rfl (fun w0 => ?_)
  refine k_len (c := s01c) (fun hl1 => ?_)
  subst hl1
  unfold p_impl_PartsMany at h
  refine kwp_seq ?_
  refine kwp_region ?_
  refine kk (n_box (e := [.int .i64 s0.st, .slice s01a s0.legs.length s01c]) 2 (fun p1_2 => ?_))
  refine kd (v_as) ?_
  refine kops_nil ?_
  refine kn_then ?_
  refine kwp_seq ?_
  refine kwp_seq ?_
  refine kwp_region ?_
  refine kd (v_ldB Try.isAgg33 Try.sizeOf33) ?_
  obtain ⟨v4, hv3, h⟩ := e_bind h
  refine kk (n_call Try.call29 (w_impl_SurveyValid s01a s0.legs.length s01c hv3) ?_)
  rintro _ _ ⟨rfl, rfl⟩
  refine kd (v_not) ?_
  refine kops_nil ?_
  refine kn_then ?_
  refine kwp_cond rfl (fun hc6 => ?_) (fun hc6 => ?_)
  ·
    replace h := e_t h hc6
    refine kwp_seq ?_
    refine kwp_region ?_
    refine kd (v_as) ?_
    refine kops_nil ?_
    refine kn_then ?_
    refine kwp_ret ?_
    refine kr_then ?_
    obtain rfl := e_some h
    refine r1 [] ?_
    exact ⟨rfl, rfl⟩
  ·
    replace h := e_f h hc6
    refine kwp_skip ?_
    refine kn_then ?_
    refine kwp_seq ?_
    refine kwp_region ?_
    refine kd (v_ldB Try.isAgg33 Try.sizeOf33) ?_
    obtain ⟨v8, hv7, h⟩ := e_bind h
    refine kk (n_call Try.call54 (w_impl_Parts s01a s0.legs.length s01c hv7) ?_)
    rintro _ _ ⟨q9a, q9c, rfl, rfl⟩
    obtain ⟨v11, hv10, h⟩ := e_bind h
    refine kk (n_call Try.call53 (w_impl_countParts q9a v8.length q9c hv10) ?_)
    rintro _ _ ⟨rfl, rfl⟩
    refine kd (v_as) ?_
    refine kops_nil ?_
    refine kn_then ?_
    refine kwp_ret ?_
    obtain rfl := e_some h
    refine r1 [] ?_
    exact ⟨rfl, rfl⟩

end Go.Proofs.Ytkhjbfngafebeaa
