/- The law of matrices turned, as a plain program; no condition. -/
import Derived.Test.YtkedammjdldloaaDoorLn
import Derived.Test.YtkedammjdldloaaDoorLy
import Derived.Test.YtkedammjdldloaaDoorLs
import Derived.Test.YtkedammjdldloaaDoorQdMatrixTurn
namespace Go.Proofs.YtkedammjdldloaaDoor
open Go
set_option linter.unusedVariables false
set_option linter.unusedSimpArgs false

theorem t_drawMatrixTurn {code : List UInt8} : Tot (p_spec_DrawMatrixTurn code) fun m => Sml 7 m := by
  unfold p_spec_DrawMatrixTurn
  obtain ⟨b, hb, hl⟩ := x_bopen (code := code)
  rw [hb]; simp only [Option.bind_some]
  refine Tot.bind (t_matrix hl (by omega) (by omega)) fun ⟨m, q⟩ h => Tot.ret ?_
  exact h.2.2
theorem turn_small {m : List (List Int)} : (turn m).length ≤ 4611686018427387904 ∧ ∀ k, k < (turn m).length → (gx (turn m) k).length ≤ 4611686018427387904 := by
  unfold turn
  split
  · rename_i h
    have n5 := (matOk_iff.1 h).n5
    refine ⟨by rw [tab_len]; omega, fun k hk => ?_⟩
    rw [tab_len] at hk
    rw [tab_gx hk, row1_len]; omega
  · exact ⟨by simp, fun k hk => by simp at hk⟩
theorem turn_twice {m : List (List Int)} (h : matOk m = true) : turn (turn m) = m := by
  have ok := matOk_iff.1 h
  have e : turn m = tab m.length (fun i j => fm m j i) := by unfold turn; rw [if_pos h]
  have ok2 : MatOk (turn m) := by
    rw [e]
    exact ⟨by rw [tab_len]; exact ok.n5, fun k hk => by rw [tab_len] at hk; rw [tab_gx hk, row1_len, tab_len], fun k hk j hj => by
      rw [tab_len] at hk hj
      rw [tab_gx hk, row1_gx hj]; exact ok.en j hj k hk⟩
  have e2 : ∀ x, MatOk x → turn x = tab x.length (fun i j => fm x j i) := fun x hx => by
    unfold turn; rw [if_pos (matOk_iff.2 hx)]
  rw [e2 _ ok2]
  have hl : (turn m).length = m.length := by rw [e, tab_len]
  rw [hl]
  have : m = tab m.length (fm m) := tab_fm rfl ok.sq
  conv => rhs; rw [this]
  apply tab_ext; intro i j hi hj
  rw [e, fm_tab hj hi]
theorem l_specMatrixTurn {m : List (List Int)} (h : m.length ≤ 4611686018427387904) (hr : ∀ k, k < m.length → (gx m k).length ≤ 4611686018427387904) : p_spec_MatrixTurn m = some (turn m) := by
  unfold p_spec_MatrixTurn turn
  cases hv : matOk m with
  | false =>
    rw [loop_out (e := []) (by
      simp only [p_spec_MatrixTurn_L0, l_specMatrixValid h hr, hv]
      cases decide (0 < ((m.length : Nat) : Int)) <;> rfl)]
    rfl
  | true =>
    have ok := matOk_iff.1 hv
    have n5 := ok.n5
    simp only [if_true]
    rw [loop_to (B := p_spec_MatrixTurn_L0 m) (fun k => ((tab m.length (fun i j => fm m j i)).take k, (k : Int))) m.length (by simp) (e := tab m.length (fun i j => fm m j i)) (fun k hk => by
      simp only [p_spec_MatrixTurn_L0, l_specMatrixValid h hr, hv]
      rw [decide_eq_true (by omega)]
      simp only [cond_true, Option.bind_some]
      rw [loop_to (B := p_spec_MatrixTurn_L1 m (k : Int)) (fun j => ((row1 m.length (fun j => fm m j k)).take j, (j : Int))) m.length (by simp) (e := row1 m.length (fun j => fm m j k)) (fun j hj => by
        simp only [p_spec_MatrixTurn_L1]
        rw [decide_eq_true (by omega), idx_at hj, ok.sq j hj, idx_at hk, need_of (by simp [row1_len]; omega), w64_succ (by omega), take_gx (by rw [row1_len]; exact hj), row1_gx hj]; rfl) (by
        simp only [p_spec_MatrixTurn_L1]
        rw [decide_eq_false (by omega), List.take_of_length_le (by rw [row1_len]; omega)]; rfl)]
      simp only [Option.bind_some]
      rw [need_of (by simp [tab_len]; omega), w64_succ (by omega), take_gx (by rw [tab_len]; exact hk), tab_gx hk]) (by
      simp only [p_spec_MatrixTurn_L0, l_specMatrixValid h hr, hv]
      rw [decide_eq_false (by omega), List.take_of_length_le (by rw [tab_len]; omega)]; rfl)]
    rfl
theorem l_FnMatrixTurn {code : List UInt8} : p_laws_FnMatrixTurn code = some true := by
  refine Tot.get ?_
  unfold p_laws_FnMatrixTurn
  refine Tot.condd (fun _ => Tot.ret rfl) (fun _ => ?_)
  refine Tot.bind t_drawMatrixTurn fun m hm => ?_
  have B := sml_big hm
  rw [l_MatrixTurn B.1 B.2, l_specMatrixTurn B.1 B.2]
  simp only [Option.bind_some]
  rw [l_sameLists turn_small.1 turn_small.2, l_specMatrixValid B.1 B.2]
  simp only [Option.bind_some, decide_true, Bool.not_true, cond_false]
  cases hv : matOk m with
  | false =>
    have : turn m = [] := by unfold turn; rw [hv]; rfl
    rw [this, l_alive]; exact Tot.ret rfl
  | true =>
    simp only [Bool.not_true, cond_false]
    rw [l_MatrixTurn turn_small.1 turn_small.2, turn_twice hv]
    simp only [Option.bind_some]
    rw [l_sameLists B.1 B.2]
    exact Tot.ret (by simp)
end Go.Proofs.YtkedammjdldloaaDoor
