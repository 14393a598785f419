/- Equations solved, pressures, flows and resistances: both programs compute the same; no condition but the sizes. -/
import Derived.Test.YtnibfmofkamjoaaDoorZLk
import Derived.Test.YtnibfmofkamjoaaDoorZQ
namespace Go.Proofs.YtnibfmofkamjoaaDoor
open Go
set_option linter.unusedVariables false
set_option linter.unusedSimpArgs false

theorem row_uc {n c i : Nat} {g : Nat → Nat → Int} {v : Nat → Int} (hc : c < n) : (row1 n (g i)).set c (v i) = row1 n (uc g c v i) := row1_set hc
theorem l_l2Column {n c : Nat} {g : Nat → Nat → Int} {r : List Int} (hn : n ≤ 1000) (hc : c < n) (hr : r.length = n) : p_spec_l2Column (tab n g) (c : Int) r = some (tab n (uc g c (gx r))) := by
  unfold p_spec_l2Column
  rw [loop_to (B := p_spec_l2Column_L0 (tab n g) (c : Int) r) (fun k => ((tab n (uc g c (gx r))).take k, (k : Int))) n (by simp) (e := tab n (uc g c (gx r))) (fun k hk => by
    simp only [p_spec_l2Column_L0]
    rw [tab_len, decide_eq_true (by omega), idx_at hk, tab_gx hk, need_of (by simp [row1_len]; omega), idx_at (by omega), List.nil_append, row1_len, idx_at hc, need_of (by simp; omega), w64_succ (by omega), row_uc (v := gx r) hc, take_gx (by rw [tab_len]; exact hk), tab_gx hk]; rfl) (by
    simp only [p_spec_l2Column_L0]
    rw [tab_len, decide_eq_false (by omega), List.take_of_length_le (by rw [tab_len]; omega)]; rfl)]
  rfl
/-- What is solved. -/
def svOk (m : List (List Int)) (r : List Int) : Bool := matOk m && (decide (r.length = m.length) && rowOk r) && !decide (det m = 0)
def sv (m : List (List Int)) (r : List Int) : List Int × Int := if svOk m r then (row1 m.length fun k => dt m.length (uc (fm m) k (gx r)), det m) else ([], 0)
theorem rowOk_at {r : List Int} (h : rowOk r = true) : ∀ k, k < r.length → -999 ≤ gx r k ∧ gx r k ≤ 999 := by
  intro k hk
  unfold rowOk at h
  rw [List.all_eq_true] at h
  have := h k (by simpa using hk)
  simpa using this
theorem det_uc {n c : Nat} {g : Nat → Nat → Int} {r : List Int} (hn : n ≤ 5) (hr : r.length = n) (h : rowOk r = true) (hg : ∀ i, i < n → ∀ j, j < n → -999 ≤ g i j ∧ g i j ≤ 999) : det (tab n (uc g c (gx r))) = dt n (uc g c (gx r)) :=
  det_tab hn fun i hi j hj => by
    unfold uc; split
    · exact rowOk_at h i (by omega)
    · exact hg i hi j hj
theorem tab_small {n : Nat} {g : Nat → Nat → Int} (hn : n ≤ 1000) : (tab n g).length ≤ 4611686018427387904 ∧ ∀ k, k < (tab n g).length → (gx (tab n g) k).length ≤ 4611686018427387904 :=
  ⟨by rw [tab_len]; omega, fun k hk => by rw [tab_len] at hk; rw [tab_gx hk, row1_len]; omega⟩
theorem l_specSolve {m : List (List Int)} {r : List Int} (h : m.length ≤ 4611686018427387904) (hr : ∀ k, k < m.length → (gx m k).length ≤ 4611686018427387904) (hl : r.length ≤ 4611686018427387904) : p_spec_Solve m r = some (sv m r) := by
  unfold p_spec_Solve sv svOk
  rw [l_specDet h hr]
  simp only [Option.bind_some, bne_dec, beq_dec]
  have e1 : decide (((r.length : Nat) : Int) = ((m.length : Nat) : Int)) = decide (r.length = m.length) := by rw [decide_eq_decide]; omega
  rw [e1]
  by_cases hd : det m = 0
  · rw [decide_eq_true hd, Bool.not_true, Bool.and_false]; rfl
  · rw [decide_eq_false hd]
    have hv : matOk m = true := by
      cases hv : matOk m with
      | true => rfl
      | false => exact absurd (by unfold det; rw [hv]; rfl) hd
    have ok := matOk_iff.1 hv
    have n5 := ok.n5
    rw [hv]
    by_cases hrl : r.length = m.length
    · rw [decide_eq_true hrl]
      simp only [cond_false, Bool.not_true, Option.bind_some, Bool.true_and, Bool.not_false, Bool.and_true]
      have hall : loop (p_spec_Solve_L0 r) 0 = some (cond (rowOk r) (.inl ()) (.inr (([] : List Int), (0 : Int)))) := by
        unfold rowOk
        refine loop_all (fun k => decide (-999 ≤ gx r k) && decide (gx r k ≤ 999)) r.length _ (fun k hk => ?_) (by simp only [p_spec_Solve_L0]; rw [decide_eq_false (by omega)]; rfl)
        simp only [p_spec_Solve_L0]
        rw [decide_eq_true (by omega), idx_at hk, w64_succ (by omega), l_l1In]
        cases decide (-999 ≤ gx r k) <;> cases decide (gx r k ≤ 999) <;> rfl
      rw [hall]
      cases hro : rowOk r with
      | false => rfl
      | true =>
        simp only [cond_true, Option.bind_some, if_true]
        have em := tab_fm rfl ok.sq
        generalize hn : m.length = n at *
        rw [loop_to (B := p_spec_Solve_L1 m r) (fun k => ((row1 n fun k => dt n (uc (fm m) k (gx r))).take k, (k : Int))) n (by simp) (e := row1 n fun k => dt n (uc (fm m) k (gx r))) (fun k hk => by
          simp only [p_spec_Solve_L1]
          have hw := l_l2Column (n := n) (c := k) (g := fm m) (r := r) (by omega) hk hrl
          rw [← em] at hw
          rw [hn, decide_eq_true (by omega), hw]
          simp only [cond_true, Option.bind_some]
          rw [l_specDet (tab_small (by omega)).1 (tab_small (by omega)).2, Option.bind_some, need_of (by simp [row1_len]; omega), w64_succ (by omega), det_uc (g := fm m) n5 hrl hro (fun i hi j hj => ok.en i (by omega) j (by omega)), take_gx (by rw [row1_len]; exact hk), row1_gx hk]) (by
          simp only [p_spec_Solve_L1]
          rw [hn, decide_eq_false (by omega), List.take_of_length_le (by rw [row1_len]; omega)]; rfl)]
        rfl
    · rw [decide_eq_false hrl]; rfl

theorem cut_one {β : Type} {n : Nat} {k : Nat → Nat → O β} (h : 1 ≤ n) : cut n 1 (n : Int) k = k 1 n := by
  unfold cut; rw [if_pos (by omega)]; simp
theorem row1_drop {n : Nat} {g : Nat → Int} : ((row1 (n + 1) g).drop 1).take (n + 1 - 1) = row1 n fun k => g (k + 1) := by
  apply gx_ext (by simp [row1_len])
  intro k hk
  have hk' : k < n := by simp [row1_len] at hk; omega
  rw [gx_take (by omega), gx_drop, row1_gx (by omega), row1_gx hk']; congr 1; omega
end Go.Proofs.YtnibfmofkamjoaaDoor
