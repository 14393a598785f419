/- A matrix turned; no condition but the sizes. -/
import Derived.Test.YtnibfmofkamjoaaDoorLw
import Derived.Test.YtnibfmofkamjoaaDoorLd
import Derived.Test.YtnibfmofkamjoaaDoorQbd
namespace Go.Proofs.YtnibfmofkamjoaaDoor
open Go
set_option linter.unusedVariables false
set_option linter.unusedSimpArgs false

def turn (m : List (List Int)) : List (List Int) := if matOk m then tab m.length (fun i j => fm m j i) else []
theorem l_MatrixTurn {m : List (List Int)} (h : m.length ≤ 4611686018427387904) (hr : ∀ k, k < m.length → (gx m k).length ≤ 4611686018427387904) : p_impl_MatrixTurn m = some (turn m) := by
  unfold p_impl_MatrixTurn turn
  rw [l_implMatrixValid h hr]
  cases hv : matOk m with
  | false => rfl
  | true =>
    have ok := matOk_iff.1 hv
    have n5 := ok.n5
    simp only [Option.bind_some, Bool.not_true, cond_false, if_true]
    rw [l_squareOf (by omega)]
    simp only [Option.bind_some]
    generalize hn : m.length = n at *
    rw [loop_to (B := p_impl_MatrixTurn_L0 m (tab n fun _ _ => 0)) (fun x => ((x : Int), tab n (fun i j => if j < x then fm m j i else 0))) n (by
      simp only [Nat.not_lt_zero, if_false]; rfl) (e := tab n (fun i j => fm m j i)) (fun x hx => by
      simp only [p_impl_MatrixTurn_L0]
      rw [hn, decide_eq_true (by omega), idx_at hx, w64_succ (by omega)]
      simp only [cond_true]
      rw [loop_to (B := p_impl_MatrixTurn_L1 m (tab n fun _ _ => 0) (x : Int) x) (fun y => ((y : Int), tab n (fun i j => if j < x ∨ (j = x ∧ i < y) then fm m j i else 0))) n (by
        simp only [Nat.not_lt_zero, and_false, or_false]; rfl) (e := tab n (fun i j => if j < x + 1 then fm m j i else 0)) (fun y hy => by
        simp only [p_impl_MatrixTurn_L1]
        rw [ok.sq x (by omega), hn, decide_eq_true (by omega), idx_at hy, tab_len, idx_at hy, w64_succ (by omega), tab_gx hy, row1_len, idx_at hx]
        simp only [cond_true]
        have := tab_set (n := n) (i := y) (j := x) (g := fun i j => if j < x ∨ (j = x ∧ i < y) then fm m j i else 0) (v := gx (gx m x) y) hy hx
        rw [tab_gx hy] at this
        rw [this]
        congr 3
        apply tab_ext; intro i j hi hj
        by_cases c : i = y ∧ j = x
        · obtain ⟨rfl, rfl⟩ := c
          rw [if_pos ⟨rfl, rfl⟩, if_pos (by omega)]; rfl
        · rw [if_neg c]
          by_cases c2 : j < x ∨ j = x ∧ i < y
          · rw [if_pos c2, if_pos (by omega)]
          · rw [if_neg c2, if_neg (by omega)]) (by
        simp only [p_impl_MatrixTurn_L1]
        rw [ok.sq x (by omega), hn, decide_eq_false (by omega)]
        simp only [cond_false]
        congr 2
        apply tab_ext; intro i j hi hj
        by_cases c : j < x + 1
        · rw [if_pos c, if_pos (by omega)]
        · rw [if_neg c, if_neg (by omega)])]
      rfl) (by
      simp only [p_impl_MatrixTurn_L0]
      rw [hn, decide_eq_false (by omega)]
      simp only [cond_false]
      congr 2
      apply tab_ext; intro i j hi hj
      rw [if_pos hj])]
    rfl
end Go.Proofs.YtnibfmofkamjoaaDoor
