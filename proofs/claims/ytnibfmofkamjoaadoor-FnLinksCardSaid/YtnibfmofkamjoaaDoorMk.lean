/- The law of links, as a plain program; no condition. -/
import Derived.Test.YtnibfmofkamjoaaDoorL2
import Derived.Test.YtnibfmofkamjoaaDoorL3
import Derived.Test.YtnibfmofkamjoaaDoorLy
import Derived.Test.YtnibfmofkamjoaaDoorLs
import Derived.Test.YtnibfmofkamjoaaDoorQ4Links
namespace Go.Proofs.YtnibfmofkamjoaaDoor
open Go
set_option linter.unusedVariables false
set_option linter.unusedSimpArgs false

theorem t_drawLinks {code : List UInt8} : Tot (p_spec_DrawLinks code) fun r => r.legs.length ≤ 10 ∧ 0 ≤ r.st ∧ r.st ≤ 7 := by
  unfold p_spec_DrawLinks
  obtain ⟨b, hb, hl⟩ := x_bopen (code := code)
  rw [hb]; simp only [Option.bind_some]
  refine Tot.bind (t_linked hl (by omega) (by omega)) fun ⟨m, q⟩ h => Tot.ret ?_
  exact h.2.2
/-- Does a leg join station 0 and another? -/
def q0 (s : Survey) (k j : Nat) : Int := - (xv (gx (lE s) j) (k + 1) * xv (gx (lE s) j) 0)
theorem q0_at {s : Survey} (ok : SurveyOk s) {k j : Nat} (hj : j < s.legs.length) : q0 s k j = if ((gx s.legs j).f = 0 ∧ (gx s.legs j).t = (k : Int) + 1) ∨ ((gx s.legs j).t = 0 ∧ (gx s.legs j).f = (k : Int) + 1) then 1 else 0 := by
  have a := ok.lg j hj
  have f0 := a.f0; have t0 := a.t0; have ne := a.ne
  obtain ⟨x, hx⟩ := Int.eq_ofNat_of_zero_le f0
  obtain ⟨y, hy⟩ := Int.eq_ofNat_of_zero_le t0
  have hg : gx (lE s) j = eL c0 (gx s.legs j) := by unfold lE; rw [gx_of_map hj]
  unfold q0 xv
  rw [hg]
  simp only [eL, hx, hy, Int.toNat_natCast]
  have nxy : x ≠ y := by omega
  by_cases c1 : x = 0 <;> by_cases c2 : y = 0 <;> by_cases c3 : x = k + 1 <;> by_cases c4 : y = k + 1 <;> simp only [c1, c2, c3, c4, if_true, if_false] <;> (repeat' split) <;> omega
theorem q0_bd {s : Survey} (ok : SurveyOk s) {k : Nat} : ∀ {j : Nat}, j ≤ s.legs.length → 0 ≤ sm j (q0 s k) ∧ sm j (q0 s k) ≤ j
  | 0, _ => by simp [sm]
  | j + 1, h => by
    have h1 := q0_bd ok (k := k) (j := j) (by omega)
    have h2 := q0_at ok (k := k) (j := j) (by omega)
    show 0 ≤ sm j (q0 s k) + q0 s k j ∧ sm j (q0 s k) + q0 s k j ≤ ((j + 1 : Nat) : Int)
    rw [h2]; split <;> omega
/-- The sum of a row is the number of the legs to station 0. -/
theorem row_sum {s : Survey} (ok : SurveyOk s) {k : Nat} (hk : k < mS s) : sm (mS s) (fun j => L0 (lE s) k j) = sm s.legs.length (q0 s k) := by
  have h1 : sm (mS s + 1) (fun v => lap (lE s) (k + 1) v * (fun _ => (1 : Int)) v) = kc (lE s) (fun _ => 1) (k + 1) := lap_kc (sv_in ok)
  have h2 : kc (lE s) (fun _ => 1) (k + 1) = 0 := by
    unfold kc; exact es_zero fun e _ => by unfold dd; simp
  rw [h2, sm_front] at h1
  replace h1 : lap (lE s) (k + 1) 0 * 1 + sm (mS s) (fun j => lap (lE s) (k + 1) (j + 1) * 1) = 0 := h1
  have h3 : sm (mS s) (fun j => L0 (lE s) k j) = sm (mS s) (fun j => lap (lE s) (k + 1) (j + 1) * 1) := sm_congr fun j _ => by unfold L0; omega
  have h4 : lap (lE s) (k + 1) 0 = - sm s.legs.length (q0 s k) := by
    unfold lap
    rw [es_ix, lE_len, ← sm_neg]
    refine sm_congr fun j hj => ?_
    have hw : (gx (lE s) j).w = 1 := by unfold lE; rw [gx_of_map hj]; rfl
    unfold q0; rw [hw]; simp
  rw [h3]
  omega
theorem l_links1 {s : Survey} (ok : SurveyOk s) {k : Nat} (hk : k < mS s) : loop (p_laws_FnLinks_L1 s (k : Int)) (0, 0) = some (sm s.legs.length (q0 s k)) := by
  have p6 := ok.p6; have n9 := ok.n9
  have hm : mS s ≤ 5 := by unfold mS; omega
  rw [loop_to (B := p_laws_FnLinks_L1 s (k : Int)) (fun j => (sm j (q0 s k), (j : Int))) s.legs.length (by rfl) (e := sm s.legs.length (q0 s k)) (fun j hj => by
    simp only [p_laws_FnLinks_L1]
    have b := q0_bd ok (k := k) (Nat.le_of_lt hj)
    have q := q0_at ok (k := k) hj
    have ne := (ok.lg j hj).ne
    have e1 : sm (j + 1) (q0 s k) = sm j (q0 s k) + q0 s k j := rfl
    rw [decide_eq_true (by omega), idx_at hj, w64_succ (k := k) (by omega), w64_succ (k := j) (by omega), w64_i (x := sm j (q0 s k) + 1) (by omega), e1, q]
    simp only [cond_true, beq_dec]
    by_cases c1 : (gx s.legs j).f = 0
    · rw [decide_eq_true c1]
      simp only [cond_true]
      by_cases c2 : (gx s.legs j).t = ((k + 1 : Nat) : Int)
      · rw [decide_eq_true c2, if_pos (by omega)]; rfl
      · rw [decide_eq_false c2, decide_eq_false (show ¬ (gx s.legs j).t = 0 by omega), if_neg (by omega), Int.add_zero]; rfl
    · rw [decide_eq_false c1]
      simp only [cond_false]
      by_cases c2 : (gx s.legs j).t = 0
      · rw [decide_eq_true c2]
        simp only [cond_true]
        by_cases c3 : (gx s.legs j).f = ((k + 1 : Nat) : Int)
        · rw [decide_eq_true c3, if_pos (by omega)]; rfl
        · rw [decide_eq_false c3, if_neg (by omega), Int.add_zero]; rfl
      · rw [decide_eq_false c2, if_neg (by omega), Int.add_zero]; rfl) (by
    simp only [p_laws_FnLinks_L1]
    rw [decide_eq_false (by omega)]; rfl)]
theorem l_links2 {n k : Nat} {g : Nat → Nat → Int} (hn : n ≤ 5) (hk : k < n) (hg : ∀ i j, -54 ≤ g i j ∧ g i j ≤ 54) : loop (p_laws_FnLinks_L2 (tab n g) (k : Int)) (0, 0) = some (sm n (g k)) := by
  have bd : ∀ j, j ≤ n → -54 * (j : Int) ≤ sm j (g k) ∧ sm j (g k) ≤ 54 * (j : Int) := by
    intro j
    induction j with
    | zero => intro _; simp [sm]
    | succ j ih =>
      intro hj
      have h1 := ih (by omega)
      have h2 := hg k j
      show -54 * ((j + 1 : Nat) : Int) ≤ sm j (g k) + g k j ∧ sm j (g k) + g k j ≤ 54 * ((j + 1 : Nat) : Int)
      omega
  rw [loop_to (B := p_laws_FnLinks_L2 (tab n g) (k : Int)) (fun j => (sm j (g k), (j : Int))) n (by rfl) (e := sm n (g k)) (fun j hj => by
    simp only [p_laws_FnLinks_L2]
    have b := bd j (Nat.le_of_lt hj)
    have b2 := hg k j
    rw [tab_len, decide_eq_true (by omega), idx_at hk, tab_gx hk, row1_len, idx_at hj, row1_gx hj, w64_succ (by omega), w64_i (by omega)]; rfl) (by
    simp only [p_laws_FnLinks_L2]
    rw [tab_len, decide_eq_false (by omega)]; rfl)]
theorem lap_symm {E : List Ed} {u v : Nat} : lap E u v = lap E v u := by
  unfold lap; exact es_congr fun e _ => by rw [Int.mul_assoc, Int.mul_assoc, Int.mul_comm (xv e u)]
theorem l_FnLinks {code : List UInt8} : p_laws_FnLinks code = some true := by
  refine Tot.get ?_
  unfold p_laws_FnLinks
  refine Tot.condd (fun _ => Tot.ret rfl) (fun _ => ?_)
  refine Tot.bind t_drawLinks fun s ⟨hm, hp0, hp6⟩ => ?_
  rw [show (⟨s.st, s.legs⟩ : Survey) = s from rfl, l_implLinks (by omega), l_specLinks (by omega), l_specSurveyValid (by omega)]
  simp only [Option.bind_some]
  rw [l_sameLists lkM_rows.1 lkM_rows.2]
  simp only [Option.bind_some, decide_true, Bool.not_true, cond_false]
  cases hv : surveyOk s with
  | false =>
    have : lkM s = [] := by unfold lkM; rw [hv]; rfl
    rw [this, l_alive]; exact Tot.ret rfl
  | true =>
    have ok := surveyOk_iff.1 hv
    have p1 := ok.p1; have p6 := ok.p6; have n9 := ok.n9
    have h5 : mS s ≤ 5 := by unfold mS; omega
    have hM : lkM s = tab (mS s) (L0 (lE s)) := by unfold lkM; rw [if_pos hv]
    rw [hM]
    simp only [Bool.not_true, cond_false]
    rw [loop_to (B := p_laws_FnLinks_L0 s (tab (mS s) (L0 (lE s)))) (fun k => (k : Int)) (mS s) (by rfl) (e := .inl ()) (fun k hk => by
      simp only [p_laws_FnLinks_L0]
      rw [tab_len, decide_eq_true (by omega), l_links1 ok hk, l_links2 h5 hk (fun i j => lkM_bd ok i j), w64_succ (by omega)]
      simp only [cond_true, Option.bind_some]
      rw [show sm (mS s) (L0 (lE s) k) = sm s.legs.length (q0 s k) from row_sum ok hk]
      simp only [bne_self_eq_false, cond_false]) (by
      simp only [p_laws_FnLinks_L0]
      rw [tab_len, decide_eq_false (by omega)]; rfl)]
    simp only [Option.bind_some]
    have hR := lkM_rows (s := s)
    rw [hM] at hR
    have hmo : matOk (tab (mS s) (L0 (lE s))) = true := matOk_iff.2 ⟨by rw [tab_len]; exact h5, fun k hk => by rw [tab_len] at hk; rw [tab_gx hk, row1_len, tab_len], fun i hi j hj => by
      rw [tab_len] at hi hj
      show -999 ≤ fm (tab (mS s) (L0 (lE s))) i j ∧ fm (tab (mS s) (L0 (lE s))) i j ≤ 999
      rw [fm_tab hi hj]
      have := lkM_bd ok i j; omega⟩
    rw [l_MatrixTurn hR.1 hR.2]
    have ht : turn (tab (mS s) (L0 (lE s))) = tab (mS s) (L0 (lE s)) := by
      unfold turn
      rw [if_pos hmo, tab_len]
      exact tab_ext fun i j hi hj => by rw [fm_tab hj hi]; unfold L0; exact lap_symm
    rw [ht]
    simp only [Option.bind_some]
    rw [l_sameLists hR.1 hR.2]
    simp only [Option.bind_some, decide_true, cond_true]
    refine Tot.ret ?_
    rw [tab_len, w64_i (by omega), beq_iff_eq]; unfold mS; omega
end Go.Proofs.YtnibfmofkamjoaaDoor
