/- The law of flows, as a plain program; no condition. -/
import Derived.Test.YtpfijnklnljccaaDoorZLe
import Derived.Test.YtpfijnklnljccaaDoorZLh
import Derived.Test.YtpfijnklnljccaaDoorZLo
import Derived.Test.YtpfijnklnljccaaDoorZQ
namespace Go.Proofs.YtpfijnklnljccaaDoor
open Go
set_option linter.unusedVariables false
set_option linter.unusedSimpArgs false

theorem t_drawFlowOk {code : List UInt8} : Tot (p_spec_DrawFlowOk code) fun r => r.1.aw.length ≤ 15 ∧ 0 ≤ r.1.p ∧ r.1.p ≤ 6 ∧ (-2 ≤ r.2.2.2.1 ∧ r.2.2.2.1 ≤ 6) ∧ r.2.2.2.2.length = r.1.aw.length ∧ Wi 5000 r.2.2.2.2 := by
  unfold p_spec_DrawFlowOk
  obtain ⟨b, hb, hl⟩ := l_bopen (code := code)
  rw [hb]; simp only [Option.bind_some]
  refine Tot.bind (t_flow hl (by omega)) fun ⟨m, i, o, K, flow, q⟩ ⟨h1, h2, h3, h4, h5, h6, h7⟩ => Tot.ret ?_
  simp only at h1 h2 h3 h4 h5 h6 h7 ⊢
  exact ⟨h1, h2, h3, h4, h5, h6⟩
theorem row1_more {n : Nat} {g : Nat → Int} : row1 (n + 1) g = row1 n g ++ [g n] := by unfold row1; rw [List.range_succ, List.map_append]; rfl
theorem row_fits {g : Nat → Int} {n : Nat} (h : ∀ k, k < n → -10000 ≤ g k ∧ g k ≤ 10000) : fits (row1 n g) = true := by
  unfold fits
  rw [List.all_eq_true]
  intro k hk
  have hk := List.mem_range.1 hk
  rw [row1_len] at hk
  have := h k hk
  rw [row1_gx hk]
  unfold fitB
  rw [decide_eq_true (by omega), decide_eq_true (by omega)]; rfl
theorem dv_row {m : Mine} {n : Nat} {c : Int} {g : Nat → Int} {v : Nat} (hn : n = m.aw.length) : dv (eM m) (gx (row1 n fun k => c * g k)) v = c * dv (eM m) g v := by
  unfold dv
  rw [← sm_mul]
  refine sm_congr fun k hk => ?_
  rw [eM_len] at hk
  rw [row1_gx (by omega)]; grind
theorem flOk_twice {m : Mine} {i o K : Int} {l : List Int} (h : flOk m i o K l = true) (hw : Wi 5000 l) : flOk m i o (2 * K) (row1 l.length fun k => 2 * gx l k) = true := by
  unfold flOk at h ⊢
  simp only [Bool.and_eq_true, decide_eq_true_eq, List.all_eq_true, List.mem_range] at h ⊢
  obtain ⟨⟨h1, h2, h3, h4, h5⟩, h6⟩ := h
  refine ⟨⟨h1, h2, h3, by rw [row1_len]; exact h4, row_fits fun k hk => by have := hw k hk; omega⟩, fun v hv => ?_⟩
  rw [dv_row h4, h6 v hv, Int.mul_assoc]
theorem mul_6 {K x : Int} (h : -2 ≤ K ∧ K ≤ 6) (hx : -5000000 ≤ x ∧ x ≤ 5000000) : -30000000 ≤ K * x ∧ K * x ≤ 30000000 := by
  rcases (show K = -2 ∨ K = -1 ∨ K = 0 ∨ K = 1 ∨ K = 2 ∨ K = 3 ∨ K = 4 ∨ K = 5 ∨ K = 6 by omega) with h | h | h | h | h | h | h | h | h <;> rw [h] <;> omega
theorem mul_tr {T x : Int} (h : 0 ≤ T ∧ T ≤ 823543) (hx : -5000 ≤ x ∧ x ≤ 5000) : -5000000000 ≤ T * x ∧ T * x ≤ 5000000000 := by
  by_cases c : 0 ≤ x
  · have h1 := Int.mul_le_mul h.2 hx.2 c (by omega)
    have h2 := Int.mul_nonneg h.1 c
    omega
  · have h1 := Int.mul_le_mul h.2 (show -x ≤ 5000 by omega) (by omega) (by omega)
    have h2 := Int.mul_nonneg h.1 (show 0 ≤ -x by omega)
    rw [Int.mul_neg] at h1 h2
    omega
theorem l_twice {l : List Int} (hl : l.length ≤ 1000) (hw : Wi 5000 l) : loop (p_laws_FnFlowOk_L0 l) (([] : List Int), 0) = some (row1 l.length fun k => 2 * gx l k) :=
  loop_to (B := p_laws_FnFlowOk_L0 l) (fun k => (row1 k fun j => 2 * gx l j, (k : Int))) l.length (by rfl) (fun k hk => by
    simp only [p_laws_FnFlowOk_L0]
    have hk2 := hw k hk
    rw [decide_eq_true (by omega), idx_at hk, w64_succ (by omega), w64_i (x := 2 * gx l k) (by omega)]
    simp only [cond_true]
    rw [need_of (by simp only [row1_len, List.length_cons, List.length_nil]; omega), row1_more]) (by
    simp only [p_laws_FnFlowOk_L0]
    rw [decide_eq_false (by omega)]; rfl)
theorem l_FnFlowOk {code : List UInt8} : p_laws_FnFlowOk code = some true := by
  refine Tot.get ?_
  unfold p_laws_FnFlowOk
  refine Tot.condd (fun _ => Tot.ret rfl) (fun _ => ?_)
  refine Tot.bind t_drawFlowOk fun ⟨m, i, o, K, l⟩ ⟨hm, hp0, hp6, hK, hl, hw⟩ => ?_
  simp only at hm hp0 hp6 hK hl hw ⊢
  rw [show (⟨m.p, m.aw⟩ : Mine) = m from rfl, l_implFlowOk (by omega) (by omega) (by omega), l_specFlowOk (by omega) (by omega) (by omega)]
  simp only [Option.bind_some, beq_self_eq_true, Bool.not_true, cond_false]
  cases hv : flOk m i o K l with
  | false => rw [l_alive]; exact Tot.ret rfl
  | true =>
    have htw := flOk_twice hv hw
    have hv2 := hv
    unfold flOk at hv2
    simp only [Bool.and_eq_true, decide_eq_true_eq, List.all_eq_true, List.mem_range] at hv2
    obtain ⟨⟨h1, h2, h3, h4, h5⟩, h6⟩ := hv2
    have ok := mineOk_iff.1 h1
    have n7 := ok.n7
    simp only [Bool.not_true, cond_false]
    rw [l_twice (by omega) hw, l_implAirFlow (by omega)]
    simp only [Option.bind_some]
    have eK : w64 (2 * K) = 2 * K := w64_i (by omega)
    rw [eK]
    cases hP : prOk m i o with
    | false =>
      have : afs m i o = ([], false) := by unfold afs; rw [hP]; rfl
      rw [this, l_implFlowOk (by omega) (by rw [row1_len]; omega) (by omega), htw]
      exact Tot.ret rfl
    | true =>
      have P := prOk_iff.1 hP
      have : afs m i o = (row1 m.aw.length (aflow m i o), true) := by unfold afs; rw [hP]; rfl
      rw [this, l_implAirTrees (by omega)]
      simp only [Bool.not_true, cond_false, Option.bind_some]
      have ht : tr m = D (mm m) (eM m) := by unfold tr; rw [h1]; rfl
      have ht0 : 0 ≤ tr m := by rw [ht]; exact D_nonneg (mine_in ok) (mine_w ok)
      have ht1 := tr_le (m := m)
      rw [loop_to (B := p_laws_FnFlowOk_L1 K l (row1 m.aw.length (aflow m i o)) (tr m)) (fun k => (row1 k fun j => tr m * gx l j, row1 k fun j => K * aflow m i o j, (k : Int))) m.aw.length (by rfl) (e := (row1 m.aw.length fun j => tr m * gx l j, row1 m.aw.length fun j => K * aflow m i o j)) (fun k hk => by
        simp only [p_laws_FnFlowOk_L1]
        have b1 := mul_tr ⟨ht0, ht1⟩ (hw k (by omega))
        have b2 := aflow_bd P hk
        have b3 := mul_6 hK (show -5000000 ≤ aflow m i o k ∧ aflow m i o k ≤ 5000000 by omega)
        rw [row1_len, decide_eq_true (by omega), decide_eq_true (by omega)]
        simp only [cond_true, Option.bind_some]
        rw [idx_at (by omega), row1_len, idx_at hk, row1_gx hk, w64_succ (by omega), w64_i (x := tr m * gx l k) (by omega), w64_i (x := K * aflow m i o k) (by omega),
          need_of (by simp only [row1_len, List.length_cons, List.length_nil]; omega), need_of (by simp only [row1_len, List.length_cons, List.length_nil]; omega), row1_more, row1_more]) (by
        simp only [p_laws_FnFlowOk_L1]
        rw [decide_eq_false (by omega)]; rfl)]
      simp only [Option.bind_some]
      rw [l_implFlowLoss (by omega) (by rw [row1_len]; omega), l_implFlowOk (by omega) (by rw [row1_len]; omega) (by omega), htw]
      simp only [Option.bind_some, cond_true]
      rw [l_implFlowLoss (by omega) (by rw [row1_len]; omega)]
      refine Tot.condd (fun _ => Tot.ret rfl) (fun hnn => ?_)
      refine Tot.ret ?_
      rw [decide_eq_true_eq]
      cases hb : lossOk m (row1 m.aw.length fun j => K * aflow m i o j) with
      | false =>
        have : loss m (row1 m.aw.length fun j => K * aflow m i o j) = -1 := by unfold loss; rw [hb]; rfl
        omega
      | true =>
        have hg : lossOk m (row1 m.aw.length fun j => tr m * gx l j) = true := by
          cases hg : lossOk m (row1 m.aw.length fun j => tr m * gx l j) with
          | true => rfl
          | false => exfalso; apply hnn; unfold loss; rw [hg]; simp
        unfold loss
        rw [hb, hg]
        simp only [if_true]
        have i2 : i.toNat ≤ mm m := by unfold mm; omega
        have o2 : o.toNat ≤ mm m := by unfold mm; omega
        have key := loss_least (m := mm m) (E := eM m) (g := fun k => tr m * gx l k) (p := pv m i o) (K := K) (r := fun k => rA (gx m.aw k)) (mine_in ok) (fun k hk => by
          rw [eM_len] at hk
          rw [eM_gx hk]
          exact (rA_eq (ok_mem ok _ (gx_mem hk))).1) (fun k hk => by
          rw [eM_len] at hk
          have := (rA_eq (ok_mem ok _ (gx_mem hk))).2.1
          omega) (fun v hv => by
          have p1 := ok.p1
          have e1 : dv (eM m) (fun k => tr m * gx l k) v = tr m * dv (eM m) (gx l) v := by
            unfold dv
            rw [← sm_mul]
            refine sm_congr fun k hk => ?_
            grind
          rw [e1, h6 v (by unfold mm at hv; omega), dv_air]
          have e2 : kc (eM m) (pv m i o) v = D (mm m) (eM m) * src i.toNat o.toNat v := pr_kc (mine_in ok) i2 o2 v hv
          rw [e2, ht]; grind)
        rw [eM_len] at key
        refine Int.le_trans (Int.le_of_eq (sm_congr fun k hk => ?_)) (Int.le_trans key (Int.le_of_eq (sm_congr fun k hk => ?_)))
        · unfold lsk
          rw [row1_gx hk]; rfl
        · unfold lsk
          rw [row1_gx hk]
end Go.Proofs.YtpfijnklnljccaaDoor
