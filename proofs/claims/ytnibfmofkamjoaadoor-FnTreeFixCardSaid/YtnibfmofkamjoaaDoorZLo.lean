/- Equations solved, pressures, flows and resistances: both programs compute the same; no condition but the sizes. -/
import Derived.Test.YtnibfmofkamjoaaDoorZLk
import Derived.Test.YtnibfmofkamjoaaDoorZQ
namespace Go.Proofs.YtnibfmofkamjoaaDoor
open Go
set_option linter.unusedVariables false
set_option linter.unusedSimpArgs false

theorem l_CloneI {l : List Int} (h : l.length ≤ 1073741824) : p_slices_Clone_int_int l = some l := by
  unfold p_slices_Clone_int_int; rw [need_of (by simpa using h)]; rfl
theorem row_uc {n c i : Nat} {g : Nat → Nat → Int} {v : Nat → Int} (hc : c < n) : (row1 n (g i)).set c (v i) = row1 n (uc g c v i) := row1_set hc
theorem l_withColumn {n c : Nat} {g : Nat → Nat → Int} {r : List Int} (hn : n ≤ 1000) (hc : c < n) (hr : r.length = n) : p_impl_withColumn (tab n g) (c : Int) r = some (tab n (uc g c (gx r))) := by
  unfold p_impl_withColumn
  rw [tab_len, sized_at (by omega)]
  have hl : (tab n (uc g c (gx r))).length = (List.replicate n ([] : List Int)).length := by simp [tab_len]
  rw [loop_to (B := p_impl_withColumn_L0 (tab n g) (c : Int) r n) (fun k => ((k : Int), mixG (tab n (uc g c (gx r))) (List.replicate n []) k)) n (by simp [mixG]) (e := tab n (uc g c (gx r))) (fun k hk => by
    simp only [p_impl_withColumn_L0]
    have hml : (mixG (tab n (uc g c (gx r))) (List.replicate n ([] : List Int)) k).length = n := by rw [mixG_len hl]; simp
    rw [tab_len, decide_eq_true (by omega), idx_at hk, tab_gx hk, l_CloneI (by rw [row1_len]; omega), w64_succ (by omega)]
    simp only [cond_true, Option.bind_some]
    rw [idx_at hk, idx_at (by omega), gx_set_self (by omega), row1_len, idx_at hc, List.set_set, row_uc (v := gx r) hc, ← mixG_set hl (by simpa using hk), tab_gx hk]) (by
    simp only [p_impl_withColumn_L0]
    rw [tab_len, decide_eq_false (by omega)]
    have := mixG_end (m := tab n (uc g c (gx r))) (l := List.replicate n ([] : List Int)) hl
    rw [List.length_replicate] at this
    rw [this]; rfl)]
  rfl
/-- What is solved. -/
def svOk (m : List (List Int)) (r : List Int) : Bool := matOk m && (decide (r.length = m.length) && rowOk r) && !decide (det m = 0)
def sv (m : List (List Int)) (r : List Int) : List Int × Int := if svOk m r then (row1 m.length fun k => dt m.length (uc (fm m) k (gx r)), det m) else ([], 0)
theorem rowOk_at {r : List Int} (h : rowOk r = true) : ∀ k, k < r.length → -999 ≤ gx r k ∧ gx r k ≤ 999 := by
  intro k hk
  unfold rowOk at h
  rw [List.all_eq_true] at h
  have := h k (by simpa using hk)
  simpa using this
theorem det_uc {n c : Nat} {g : Nat → Nat → Int} {r : List Int} (hn : n ≤ 5) (hr : r.length = n) (h : rowOk r = true) (hg : ∀ i, i < n → ∀ j, j < n → -999 ≤ g i j ∧ g i j ≤ 999) : det (tab n (uc g c (gx r))) = dt n (uc g c (gx r)) :=
  det_tab hn fun i hi j hj => by
    unfold uc; split
    · exact rowOk_at h i (by omega)
    · exact hg i hi j hj
theorem tab_small {n : Nat} {g : Nat → Nat → Int} (hn : n ≤ 1000) : (tab n g).length ≤ 4611686018427387904 ∧ ∀ k, k < (tab n g).length → (gx (tab n g) k).length ≤ 4611686018427387904 :=
  ⟨by rw [tab_len]; omega, fun k hk => by rw [tab_len] at hk; rw [tab_gx hk, row1_len]; omega⟩
theorem l_implSolve {m : List (List Int)} {r : List Int} (h : m.length ≤ 4611686018427387904) (hr : ∀ k, k < m.length → (gx m k).length ≤ 4611686018427387904) (hl : r.length ≤ 4611686018427387904) : p_impl_Solve m r = some (sv m r) := by
  unfold p_impl_Solve sv svOk
  rw [l_implMatrixValid h hr]
  cases hv : matOk m with
  | false => rfl
  | true =>
    have ok := matOk_iff.1 hv
    have n5 := ok.n5
    simp only [Option.bind_some, Bool.not_true, cond_false, Bool.true_and, bne_dec]
    have e1 : decide (((r.length : Nat) : Int) = ((m.length : Nat) : Int)) = decide (r.length = m.length) := by rw [decide_eq_decide]; omega
    rw [e1, l_entriesFit hl]
    by_cases hrl : r.length = m.length
    · rw [decide_eq_true hrl]
      cases hro : rowOk r with
      | false => rfl
      | true =>
        simp only [Option.bind_some, Bool.not_true, cond_false, Bool.true_and]
        rw [l_implDet h hr]
        simp only [Option.bind_some, beq_dec]
        by_cases hd : det m = 0
        · rw [decide_eq_true hd]; rfl
        · rw [decide_eq_false hd, sized_at (by omega)]
          simp only [cond_false, Bool.not_false, if_true]
          have em := tab_fm rfl ok.sq
          generalize hn : m.length = n at *
          rw [loop_to (B := p_impl_Solve_L0 m r n) (fun k => ((k : Int), mixG (row1 n fun k => dt n (uc (fm m) k (gx r))) (List.replicate n 0) k)) n (by simp [mixG]) (e := row1 n fun k => dt n (uc (fm m) k (gx r))) (fun k hk => by
            simp only [p_impl_Solve_L0]
            have hw := l_withColumn (n := n) (c := k) (g := fm m) (r := r) (by omega) hk hrl
            rw [← em] at hw
            rw [decide_eq_true (by omega), hw]
            simp only [cond_true, Option.bind_some]
            rw [l_implDet (tab_small (by omega)).1 (tab_small (by omega)).2, Option.bind_some, idx_at hk, w64_succ (by omega), det_uc (g := fm m) n5 hrl hro (fun i hi j hj => ok.en i (by omega) j (by omega)), ← mixG_set (by simp [row1_len]) (by simpa using hk), row1_gx hk]) (by
            simp only [p_impl_Solve_L0]
            rw [decide_eq_false (by omega)]
            have := mixG_end (m := row1 n fun k => dt n (uc (fm m) k (gx r))) (l := List.replicate n (0 : Int)) (by simp [row1_len])
            rw [List.length_replicate] at this
            rw [this]; rfl)]
          rfl
    · rw [decide_eq_false hrl]; rfl
end Go.Proofs.YtnibfmofkamjoaaDoor
