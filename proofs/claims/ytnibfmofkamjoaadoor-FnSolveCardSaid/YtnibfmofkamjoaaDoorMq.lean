/- The law of matrices solved, as a plain program; no condition. -/
import Derived.Test.YtnibfmofkamjoaaDoorLn
import Derived.Test.YtnibfmofkamjoaaDoorLo
import Derived.Test.YtnibfmofkamjoaaDoorLx
import Derived.Test.YtnibfmofkamjoaaDoorLs
import Derived.Test.YtnibfmofkamjoaaDoorQ4Solve
namespace Go.Proofs.YtnibfmofkamjoaaDoor
open Go
set_option linter.unusedVariables false
set_option linter.unusedSimpArgs false

theorem t_drawSolve {code : List UInt8} : Tot (p_spec_DrawSolve code) fun r => Sml 7 r.1 ∧ r.2.length ≤ 100 := by
  unfold p_spec_DrawSolve
  obtain ⟨b, hb, hl⟩ := x_bopen (code := code)
  rw [hb]; simp only [Option.bind_some]
  refine Tot.bind (t_matrix hl (by omega) (by omega)) fun ⟨m, q⟩ h => ?_
  simp only at h ⊢
  obtain ⟨h1, h2, h3⟩ := h
  have hm := h3.1
  refine Tot.bind (R := fun s => s.1.length ≤ 7 ∧ q ≤ s.2 ∧ s.2 ≤ q + 100) ?_ fun ⟨right, p12⟩ hs => ?_
  · refine Tot.loop (fun s => (s.1.length : Int) = s.2.1 ∧ s.2.1 ≤ m.length ∧ s.2.2 = q + 2 * s.2.1) (fun s => (m.length - s.2.1).toNat) (fun ⟨right, k, p⟩ h => ?_) (by simp only [List.length_nil]; omega)
    simp only at h
    simp only [p_spec_DrawSolve_L0]
    refine Tot.condd (fun hk => ?_) (fun hk => Tot.ret (by simp only; omega))
    refine Tot.bind (x_pick hl (by omega) (by omega)) fun ⟨v26, v27⟩ h26 => ?_
    simp only at h26 ⊢
    refine Tot.bind (x_pick hl (by omega) (by omega)) fun ⟨v30, v31⟩ h30 => ?_
    simp only at h30 ⊢
    refine Tot.need (by simp only [List.length_cons, List.length_nil]; omega) (Tot.ret ?_)
    simp only [List.length_append, List.length_cons, List.length_nil]
    rw [w64_i (x := k + 1) (by omega)]; omega
  simp only at hs ⊢
  refine Tot.bind (x_odd hl (by omega) (by omega)) fun ⟨v42, v43⟩ h42 => ?_
  refine Tot.cond (fun _ => Tot.need (by simp only [List.length_cons, List.length_nil]; omega) (Tot.ret ⟨h3, by simp only [List.length_append, List.length_cons, List.length_nil]; omega⟩)) (fun _ => Tot.ret ⟨h3, by simp only; omega⟩)
theorem l_solveRow {m : List (List Int)} {x : Nat → Int} {k : Nat} (h5 : m.length ≤ 5) (hsq : ∀ k, k < m.length → (gx m k).length = m.length) (hk : k < m.length) :
    loop (p_laws_FnSolve_L1 m (row1 m.length x) (k : Int)) (0, 0) = some (w64 (sm m.length fun j => fm m k j * x j)) := by
  rw [loop_to (B := p_laws_FnSolve_L1 m (row1 m.length x) (k : Int)) (fun j => (w64 (sm j fun j => fm m k j * x j), (j : Int))) m.length (by
    have : w64 0 = 0 := w64_i (by omega)
    simp only [sm, this]; rfl) (e := w64 (sm m.length fun j => fm m k j * x j)) (fun j hj => by
    simp only [p_laws_FnSolve_L1]
    rw [decide_eq_true (by omega), idx_at hk, hsq k hk, idx_at hj, row1_len, idx_at hj, w64_succ (by omega), row1_gx hj, w64_add2]
    rfl) (by
    simp only [p_laws_FnSolve_L1]
    rw [decide_eq_false (by omega)]; rfl)]
theorem l_FnSolve {code : List UInt8} : p_laws_FnSolve code = some true := by
  refine Tot.get ?_
  unfold p_laws_FnSolve
  refine Tot.condd (fun _ => Tot.ret rfl) (fun _ => ?_)
  refine Tot.bind t_drawSolve fun ⟨m, r⟩ ⟨hm, hr⟩ => ?_
  simp only at hm hr ⊢
  have B := sml_big hm
  rw [l_implSolve B.1 B.2 (by omega), l_specSolve B.1 B.2 (by omega), l_implDet B.1 B.2]
  simp only [Option.bind_some]
  have hl : (sv m r).1.length ≤ 4611686018427387904 := by
    unfold sv; split
    · simp only [row1_len]; have := hm.1; omega
    · simp
  rw [l_sameInts hl]
  simp only [Option.bind_some, decide_true, Bool.not_true, cond_false, bne_self_eq_false]
  cases hv : svOk m r with
  | false =>
    have e : sv m r = ([], 0) := by unfold sv; rw [hv]; rfl
    rw [e, l_alive]
    exact Tot.ret rfl
  | true =>
    have e : sv m r = (row1 m.length fun k => dt m.length (uc (fm m) k (gx r)), det m) := by unfold sv; rw [if_pos hv]
    have hv2 := hv
    unfold svOk at hv2
    simp only [Bool.and_eq_true, decide_eq_true_eq, Bool.not_eq_true', decide_eq_false_iff_not] at hv2
    obtain ⟨⟨h1, h2, h3⟩, h4⟩ := hv2
    have ok := matOk_iff.1 h1
    have h5 := ok.n5
    have ed : det m = dt m.length (fm m) := by unfold det; rw [if_pos h1]
    rw [e]
    have n0 : (det m == 0) = false := beq_eq_false_iff_ne.2 h4
    simp only [n0, cond_false]
    rw [loop_to (B := p_laws_FnSolve_L0 m r (row1 m.length fun k => dt m.length (uc (fm m) k (gx r))) (det m)) (fun k => (k : Int)) m.length (by simp) (e := .inl ()) (fun k hk => by
      simp only [p_laws_FnSolve_L0]
      rw [decide_eq_true (by omega), l_solveRow h5 ok.sq hk, h2, cramer hk, ed, w64_succ (by omega)]
      simp only [Option.bind_some, cond_true]
      rw [idx_at hk]
      simp only [bne_self_eq_false, cond_false]) (by
      simp only [p_laws_FnSolve_L0]
      rw [decide_eq_false (by omega)]; rfl)]
    simp only [Option.bind_some]
    exact Tot.ret (by simp)
end Go.Proofs.YtnibfmofkamjoaaDoor
