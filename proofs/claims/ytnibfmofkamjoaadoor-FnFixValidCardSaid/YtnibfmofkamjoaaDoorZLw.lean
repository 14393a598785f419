/- Determinants: both programs compute the same; no condition but the sizes. -/
import Derived.Test.YtnibfmofkamjoaaDoorZLc
import Derived.Test.YtnibfmofkamjoaaDoorZLa
import Derived.Test.YtnibfmofkamjoaaDoorZNa
import Derived.Test.YtnibfmofkamjoaaDoorZQ
namespace Go.Proofs.YtnibfmofkamjoaaDoor
open Go
set_option linter.unusedVariables false
set_option linter.unusedSimpArgs false

def fm (m : List (List Int)) : Mx := fun i j => gx (gx m i) j
def rowOk (l : List Int) : Bool := (List.range l.length).all fun j => decide (-999 ≤ gx l j) && decide (gx l j ≤ 999)
def matOk (m : List (List Int)) : Bool := decide (m.length ≤ 5) && (List.range m.length).all fun k => decide ((gx m k).length = m.length) && rowOk (gx m k)
structure MatOk (m : List (List Int)) : Prop where
  n5 : m.length ≤ 5
  sq : ∀ k, k < m.length → (gx m k).length = m.length
  en : ∀ k, k < m.length → ∀ j, j < m.length → -999 ≤ gx (gx m k) j ∧ gx (gx m k) j ≤ 999
theorem matOk_iff {m : List (List Int)} : matOk m = true ↔ MatOk m := by
  simp only [matOk, rowOk, Bool.and_eq_true, decide_eq_true_eq, List.all_eq_true, List.mem_range]
  constructor
  · rintro ⟨h1, h2⟩
    exact ⟨h1, fun k hk => (h2 k hk).1, fun k hk j hj => (h2 k hk).2 j (by rw [(h2 k hk).1]; exact hj)⟩
  · rintro ⟨h1, h2, h3⟩
    exact ⟨h1, fun k hk => ⟨h2 k hk, fun j hj => h3 k hk j (by rw [h2 k hk] at hj; exact hj)⟩⟩
theorem tab_fm {m : List (List Int)} {n : Nat} (h : m.length = n) (hr : ∀ k, k < n → (gx m k).length = n) : m = tab n (fm m) := by
  apply gx_ext (by rw [tab_len, h])
  intro k hk
  rw [h] at hk
  rw [tab_gx hk]
  apply gx_ext (by rw [row1_len, hr k hk])
  intro j hj
  rw [hr k hk] at hj
  rw [row1_gx hj]; rfl
theorem fm_tab {n i j : Nat} {g : Nat → Nat → Int} (hi : i < n) (hj : j < n) : fm (tab n g) i j = g i j := by unfold fm; rw [tab_gx hi, row1_gx hj]
theorem l_specRow1 {m : List (List Int)} {k : Nat} (hk : k < m.length) (hr : (gx m k).length ≤ 4611686018427387904) : loop (p_spec_MatrixValid_L1 m (k : Int)) 0 = some (cond (rowOk (gx m k)) (.inl ()) (.inr (.out (.inr false)))) := by
  unfold rowOk
  refine loop_all (fun j => decide (-999 ≤ gx (gx m k) j) && decide (gx (gx m k) j ≤ 999)) (gx m k).length _ (fun j hj => ?_) ?_
  · simp only [p_spec_MatrixValid_L1]
    rw [idx_at hk, decide_eq_true (by omega), idx_at hj, w64_succ (by omega), l_l1In]
    cases decide (-999 ≤ gx (gx m k) j) <;> cases decide (gx (gx m k) j ≤ 999) <;> rfl
  · simp only [p_spec_MatrixValid_L1]
    rw [idx_at hk, decide_eq_false (by omega)]; rfl
theorem l_specMatrixValid {m : List (List Int)} (h : m.length ≤ 4611686018427387904) (hr : ∀ k, k < m.length → (gx m k).length ≤ 4611686018427387904) : p_spec_MatrixValid m = some (matOk m) := by
  unfold p_spec_MatrixValid matOk
  rw [loop_all (fun k => decide ((gx m k).length = m.length) && rowOk (gx m k)) m.length false (fun k hk => by
    simp only [p_spec_MatrixValid_L0]
    rw [decide_eq_true (by omega), idx_at hk, w64_succ (by omega), l_specRow1 hk (hr k hk), bne_dec]
    have : decide ((((gx m k).length : Nat) : Int) = ((m.length : Nat) : Int)) = decide ((gx m k).length = m.length) := by rw [decide_eq_decide]; omega
    rw [this]
    cases decide ((gx m k).length = m.length) <;> cases rowOk (gx m k) <;> rfl) (by simp only [p_spec_MatrixValid_L0]; rw [decide_eq_false (by omega)]; rfl)]
  have e3 : decide (((m.length : Nat) : Int) ≤ 5) = decide (m.length ≤ 5) := by rw [decide_eq_decide]; omega
  rw [e3]
  cases decide (m.length ≤ 5) <;> cases (List.range m.length).all (fun k => decide ((gx m k).length = m.length) && rowOk (gx m k)) <;> rfl

def bd : Nat → Nat
  | 0 => 1
  | n + 1 => (n + 1) * (999 * bd n)
theorem sm_natAbs {n B : Nat} {f : Nat → Int} (h : ∀ k, k < n → (f k).natAbs ≤ B) : (sm n f).natAbs ≤ n * B := by
  induction n with
  | zero => simp [sm]
  | succ n ih =>
    unfold sm
    have h1 := ih (fun k hk => h k (by omega))
    have h2 := h n (by omega)
    have h3 := Int.natAbs_add_le (sm n f) (f n)
    rw [Nat.add_mul]; omega
theorem sg_abs : ∀ n, (sg n).natAbs = 1
  | 0 => rfl
  | n + 1 => by unfold sg; rw [Int.natAbs_neg]; exact sg_abs n
theorem term_bd {k : Nat} {x d : Int} {B : Nat} (hx : x.natAbs ≤ 999) (hd : d.natAbs ≤ B) : (sg k * x * d).natAbs ≤ 999 * B := by
  rw [Int.natAbs_mul, Int.natAbs_mul, sg_abs, Nat.one_mul]; exact Nat.mul_le_mul hx hd
theorem dt_bd : ∀ {n : Nat} {M : Mx}, (∀ i, i < n → ∀ j, j < n → (M i j).natAbs ≤ 999) → (dt n M).natAbs ≤ bd n
  | 0, M, _ => by simp [dt, bd]
  | n + 1, M, h => by
    unfold dt bd
    refine sm_natAbs fun k hk => term_bd (h 0 (by omega) k hk) (dt_bd fun i hi j hj => h (i + 1) (by omega) _ (sk_lt hj))
theorem bd_4 {n : Nat} (h : n ≤ 4) : 999 * bd n ≤ 23880239760119976 := by
  rcases (show n = 0 ∨ n = 1 ∨ n = 2 ∨ n = 3 ∨ n = 4 by omega) with rfl | rfl | rfl | rfl | rfl <;> decide
/-- One step of the sum. -/
theorem step_w {s x d : Int} {k c B : Nat} (hc : c ≤ 4) (hB : 999 * B ≤ 23880239760119976) (hs : s.natAbs ≤ c * (999 * B)) (hx : x.natAbs ≤ 999) (hd : d.natAbs ≤ B) :
    w64 (s + w64 (w64 (sg k * x) * d)) = s + sg k * x * d := by
  have h1 : (sg k * x).natAbs ≤ 999 := by rw [Int.natAbs_mul, sg_abs, Nat.one_mul]; exact hx
  have h2 := term_bd (k := k) hx hd
  have h3 : s.natAbs ≤ 4 * (999 * B) := Nat.le_trans hs (Nat.mul_le_mul_right _ hc)
  rw [w64_in (x := sg k * x) (by omega) (by omega), w64_in (x := sg k * x * d) (by omega) (by omega), w64_in (by omega) (by omega)]
theorem sg_w {k : Nat} : w64 (- sg k) = sg (k + 1) := by
  have := sg_abs k
  rw [w64_in (by omega) (by omega)]; rfl

theorem l_l2Minor {n k : Nat} {g : Nat → Nat → Int} (hn : n ≤ 5) (hk : k < n + 1) : p_spec_l2Minor (tab (n + 1) g) 0 (k : Int) = some (tab n (fun i j => g (i + 1) (sk k j))) := by
  unfold p_spec_l2Minor
  have hrow : ∀ i, i < n + 1 → (row1 (n + 1) (g i)).take k ++ (row1 (n + 1) (g i)).drop (k + 1) = row1 n (fun j => g i (sk k j)) := by
    intro i hi
    apply gx_ext (by simp [row1_len]; omega)
    intro j hj
    simp only [List.length_append, List.length_take, List.length_drop, row1_len] at hj
    have hj' : j < n := by omega
    rw [row1_gx hj']
    by_cases h : j < k
    · rw [gx_app1 (by simp [row1_len]; omega), gx_take h, row1_gx (by omega)]; unfold sk; rw [if_pos h]
    · rw [gx_app3 (by simp [row1_len]; omega), gx_drop, row1_gx (by simp [row1_len]; omega)]
      unfold sk; rw [if_neg h]; congr 1; simp [row1_len]; omega
  have hf : (([] : List (List Int)), (0 : Int)) = (fun i : Nat => ((tab n (fun i j => g (i + 1) (sk k j))).take (i - 1), (i : Int))) 0 := by simp
  rw [loop_to (B := p_spec_l2Minor_L0 (tab (n + 1) g) 0 (k : Int)) (fun i => ((tab n (fun i j => g (i + 1) (sk k j))).take (i - 1), (i : Int))) (n + 1) hf (e := tab n (fun i j => g (i + 1) (sk k j))) (fun i hi => by
    simp only [p_spec_l2Minor_L0, tab_len]
    rw [decide_eq_true (by omega)]
    cases i with
    | zero => rfl
    | succ i =>
      have hne : (((i + 1 : Nat) : Int) != 0) = true := by simp; omega
      rw [hne, w64_succ (by omega)]
      simp only [cond_true]
      rw [idx_at (by omega), tab_gx (by omega), row1_len]
      have z : (0 : Int) = ((0 : Nat) : Int) := rfl
      rw [z, cut_at (by omega) (by omega), need_of (by simp [row1_len]; omega), w64_succ (by omega), cut_at (by omega) (by omega), need_of (by simp [row1_len]; omega), need_of (by simp; omega)]
      have e1 : (row1 (n + 1) (g (i + 1))).drop 0 = row1 (n + 1) (g (i + 1)) := rfl
      have e2 : ((row1 (n + 1) (g (i + 1))).drop (k + 1)).take (n + 1 - (k + 1)) = (row1 (n + 1) (g (i + 1))).drop (k + 1) := List.take_of_length_le (by simp [row1_len])
      rw [e1, e2, Nat.sub_zero, List.nil_append, hrow (i + 1) hi]
      have e3 : i + 1 + 1 - 1 = i + 1 := by omega
      have e4 : i + 1 - 1 = i := by omega
      rw [e3, e4, take_gx (by rw [tab_len]; omega), tab_gx (by omega)]) (by
    simp only [p_spec_l2Minor_L0, tab_len]
    rw [decide_eq_false (by omega), List.take_of_length_le (by rw [tab_len]; omega)]; rfl)]
  rfl
theorem l_l2Det : ∀ {n fuel : Nat} {g : Nat → Nat → Int}, n ≤ 5 → n < fuel → (∀ i, i < n → ∀ j, j < n → (g i j).natAbs ≤ 999) → p_spec_l2Det fuel (tab n g) = some (dt n g)
  | 0, fuel + 1, g, _, _, _ => by
    unfold p_spec_l2Det; simp [tab, dt]
  | n + 1, fuel + 1, g, hn, hf, hg => by
    unfold p_spec_l2Det
    simp only [tab_len]
    have hne : (((n + 1 : Nat) : Int) == 0) = false := by simp; omega
    rw [hne, cond_false]
    have hB := bd_4 (n := n) (by omega)
    have tb : ∀ k, k < n + 1 → (dt n fun i j => g (i + 1) (sk k j)).natAbs ≤ bd n := fun k hk => dt_bd fun i hi j hj => hg (i + 1) (by omega) _ (sk_lt hj)
    rw [loop_to (B := p_spec_l2Det_L0 (tab (n + 1) g) (p_spec_l2Det fuel)) (fun k => (sm k fun k => sg k * g 0 k * dt n fun i j => g (i + 1) (sk k j), sg k, (k : Int))) (n + 1) (by rfl) (e := dt (n + 1) g) (fun k hk => by
      simp only [p_spec_l2Det_L0, tab_len]
      have z : (0 : Int) = ((0 : Nat) : Int) := rfl
      rw [decide_eq_true (by omega), w64_succ (by omega), sg_w]
      conv => lhs; rw [show idx (n + 1) (0 : Int) = idx (n + 1) ((0 : Nat) : Int) from rfl]
      rw [idx_at (by omega), tab_gx (by omega), row1_len, idx_at hk, row1_gx hk]
      simp only [cond_true]
      by_cases h0 : g 0 k = 0
      · rw [show (g 0 k != 0) = false by simpa using h0]
        simp only [cond_false, sm, h0]
        rw [Int.mul_zero, Int.zero_mul, Int.add_zero]
      · rw [show (g 0 k != 0) = true by simpa using h0, cond_true, l_l2Minor (by omega) hk, Option.bind_some, l_l2Det (by omega) (by omega) (fun i hi j hj => hg (i + 1) (by omega) _ (sk_lt hj)), Option.bind_some]
        rw [step_w (c := k) (B := bd n) (by omega) hB (sm_natAbs fun q hq => term_bd (hg 0 (by omega) q (by omega)) (tb q (by omega))) (hg 0 (by omega) k hk) (tb k hk)]
        rfl) (by
      simp only [p_spec_l2Det_L0, tab_len]
      rw [decide_eq_false (by omega)]; rfl)]
    rfl
def det (m : List (List Int)) : Int := if matOk m then dt m.length (fm m) else 0
theorem en_abs {m : List (List Int)} (h : MatOk m) : ∀ i, i < m.length → ∀ j, j < m.length → (fm m i j).natAbs ≤ 999 := fun i hi j hj => by
  have := h.en i hi j hj
  unfold fm; omega
theorem l_specDet {m : List (List Int)} (h : m.length ≤ 4611686018427387904) (hr : ∀ k, k < m.length → (gx m k).length ≤ 4611686018427387904) : p_spec_Det m = some (det m) := by
  unfold p_spec_Det det
  rw [l_specMatrixValid h hr]
  simp only [Option.bind_some]
  cases hv : matOk m with
  | false => rfl
  | true =>
    have ok := matOk_iff.1 hv
    have e := tab_fm rfl ok.sq
    have := l_l2Det (fuel := 64) ok.n5 (by have := ok.n5; omega) (en_abs ok)
    rw [← e] at this
    simp only [Bool.not_true, cond_false, if_true]
    rw [this]; rfl

theorem det_tab {n : Nat} {g : Nat → Nat → Int} (hn : n ≤ 5) (hg : ∀ i, i < n → ∀ j, j < n → -999 ≤ g i j ∧ g i j ≤ 999) : det (tab n g) = dt n g := by
  unfold det
  have ok : MatOk (tab n g) := ⟨by rw [tab_len]; exact hn, fun k hk => by rw [tab_len] at hk; rw [tab_gx hk, row1_len, tab_len], fun k hk j hj => by
    rw [tab_len] at hk hj
    rw [tab_gx hk, row1_gx hj]; exact hg k hk j hj⟩
  rw [if_pos (matOk_iff.2 ok), tab_len]
  exact dt_congr fun i hi j hj => fm_tab hi hj
end Go.Proofs.YtnibfmofkamjoaaDoor
