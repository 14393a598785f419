/- The law of what flows lose, as a plain program; no condition. -/
import Derived.Test.YtpfijnklnljccaaDoorZLe
import Derived.Test.YtpfijnklnljccaaDoorZLh
import Derived.Test.YtpfijnklnljccaaDoorZQ
namespace Go.Proofs.YtpfijnklnljccaaDoor
open Go
set_option linter.unusedVariables false
set_option linter.unusedSimpArgs false

theorem t_drawFlowLoss {code : List UInt8} : Tot (p_spec_DrawFlowLoss code) fun r => r.1.aw.length ≤ 15 ∧ 0 ≤ r.1.p ∧ r.1.p ≤ 6 ∧ r.2.length ≤ 16 ∧ Wi 5000 r.2 := by
  unfold p_spec_DrawFlowLoss
  obtain ⟨b, hb, hl⟩ := l_bopen (code := code)
  rw [hb]; simp only [Option.bind_some]
  refine Tot.bind (t_flow hl (by omega)) fun ⟨m, i, o, K, flow, q⟩ ⟨h1, h2, h3, h4, h5, h6, h7⟩ => ?_
  simp only at h1 h2 h3 h4 h5 h6 h7 ⊢
  refine Tot.bind (t_odd hl (by omega) (by omega)) fun ⟨v, q2⟩ h8 => ?_
  refine Tot.cond (fun _ => Tot.need (by simp only [List.length_cons, List.length_nil]; omega) (Tot.ret ?_)) (fun _ => Tot.ret ⟨h1, h2, h3, by simp only; omega, h6⟩)
  refine ⟨h1, h2, h3, by simp only [List.length_append, List.length_cons, List.length_nil]; omega, fun k hk => ?_⟩
  by_cases e : k < flow.length
  · rw [gx_app1 e]; exact h6 k e
  · have : k = flow.length := by simp at hk; omega
    subst this; rw [gx_app2]; omega
theorem row1_succ {n : Nat} {g : Nat → Int} : row1 (n + 1) g = row1 n g ++ [g n] := by unfold row1; rw [List.range_succ, List.map_append]; rfl
theorem wi_fits {l : List Int} {g : Nat → Int} {n : Nat} (h : ∀ k, k < n → -10000 ≤ g k ∧ g k ≤ 10000) : fits (row1 n g) = true := by
  unfold fits
  rw [List.all_eq_true]
  intro k hk
  have hk := List.mem_range.1 hk
  rw [row1_len] at hk
  have := h k hk
  rw [row1_gx hk]
  unfold fitB
  rw [decide_eq_true (by omega), decide_eq_true (by omega)]; rfl
theorem loss_row {m : Mine} {n : Nat} {g : Nat → Int} (hm : mineOk m = true) (hn : n = m.aw.length) (h : ∀ k, k < n → -10000 ≤ g k ∧ g k ≤ 10000) : loss m (row1 n g) = sm m.aw.length fun k => g k * g k * rA (gx m.aw k) := by
  unfold loss lossOk
  rw [hm, decide_eq_true (show (row1 n g).length = m.aw.length by rw [row1_len]; exact hn), wi_fits (l := []) h]
  simp only [Bool.and_self, if_true]
  refine sm_congr fun k hk => ?_
  unfold lsk
  rw [row1_gx (by omega)]
theorem l_FnFlowLoss {code : List UInt8} : p_laws_FnFlowLoss code = some true := by
  refine Tot.get ?_
  unfold p_laws_FnFlowLoss
  refine Tot.condd (fun _ => Tot.ret rfl) (fun _ => ?_)
  refine Tot.bind t_drawFlowLoss fun ⟨m, l⟩ ⟨hm, hp0, hp6, hl, hw⟩ => ?_
  simp only at hm hp0 hp6 hl hw ⊢
  rw [show (⟨m.p, m.aw⟩ : Mine) = m from rfl, l_implFlowLoss (by omega) (by omega), l_specFlowLoss (by omega) (by omega)]
  simp only [Option.bind_some, bne_self_eq_false, cond_false]
  cases hv : lossOk m l with
  | false =>
    have e : loss m l = -1 := by unfold loss; rw [hv]; rfl
    rw [e, l_alive]; exact Tot.ret rfl
  | true =>
    have e : loss m l = sm m.aw.length (lsk m l) := by unfold loss; rw [hv]; rfl
    have hv2 := hv
    unfold lossOk at hv2
    simp only [Bool.and_eq_true, decide_eq_true_eq] at hv2
    obtain ⟨hmo, hlen, hf⟩ := hv2
    have ok := mineOk_iff.1 hmo
    have hb := lsum_bd ok hlen hf _ (Nat.le_refl _)
    have hr : ∀ k, k < m.aw.length → 10 ≤ rA (gx m.aw k) := fun k hk => (rA_eq (ok_mem ok _ (gx_mem hk))).2.1
    rw [e, decide_eq_false (by omega)]
    simp only [cond_false]
    rw [loop_to (B := p_laws_FnFlowLoss_L0 l) (fun k => (row1 k fun j => - gx l j, row1 k fun j => 2 * gx l j, (List.range k).any (fun j => gx l j != 0), (k : Int))) l.length (by rfl) (e := (row1 l.length fun j => - gx l j, row1 l.length fun j => 2 * gx l j, (List.range l.length).any (fun j => gx l j != 0))) (fun k hk => by
      simp only [p_laws_FnFlowLoss_L0]
      have hk2 := hw k hk
      rw [decide_eq_true (by omega), idx_at hk, w64_succ (by omega), w64_i (x := - gx l k) (by omega), w64_i (x := 2 * gx l k) (by omega)]
      simp only [cond_true]
      rw [need_of (by simp only [row1_len, List.length_cons, List.length_nil]; omega), need_of (by simp only [row1_len, List.length_cons, List.length_nil]; omega), row1_succ, row1_succ, List.range_succ, List.any_append]
      cases (List.range k).any (fun j => gx l j != 0) <;> simp) (by
      simp only [p_laws_FnFlowLoss_L0]
      rw [decide_eq_false (by omega)]; rfl)]
    simp only [Option.bind_some]
    rw [l_implFlowLoss (by omega) (by rw [row1_len]; omega), l_implFlowLoss (by omega) (by rw [row1_len]; omega)]
    rw [loss_row hmo hlen (fun k hk => by have := hw k hk; omega), loss_row hmo hlen (fun k hk => by have := hw k hk; omega)]
    have e1 : sm m.aw.length (fun k => - gx l k * - gx l k * rA (gx m.aw k)) = sm m.aw.length (lsk m l) := sm_congr fun k hk => by
      unfold lsk; rw [Int.neg_mul_neg]
    have e2 : sm m.aw.length (fun k => 2 * gx l k * (2 * gx l k) * rA (gx m.aw k)) = 4 * sm m.aw.length (lsk m l) := by
      rw [← sm_mul]; refine sm_congr fun k hk => ?_
      unfold lsk; grind
    rw [e1, e2]
    have hm9 := ok.n7
    rw [w64_i (x := 4 * sm m.aw.length (lsk m l)) (by omega)]
    simp only [Option.bind_some, beq_self_eq_true, cond_true]
    refine Tot.ret ?_
    rw [beq_iff_eq, Bool.eq_iff_iff, decide_eq_true_eq, List.any_eq_true, hlen]
    constructor
    · intro hx
      refine Classical.byContradiction fun hno => ?_
      have : sm m.aw.length (lsk m l) = 0 := sm_zero fun k hk => by
        have hz : gx l k = 0 := by
          refine Classical.byContradiction fun hne => hno ⟨k, List.mem_range.2 hk, bne_iff_ne.2 hne⟩
        unfold lsk; rw [hz]; simp
      omega
    · rintro ⟨k, hk, hne⟩
      have hk := List.mem_range.1 hk
      have hne := bne_iff_ne.1 hne
      refine Classical.byContradiction fun hno => ?_
      have := sm_eq_zero (fun k hk => (lsk_bd ok hlen hf hk).1) (by omega) k hk
      unfold lsk at this
      have h1 := sq_pos hne
      have h2 := hr k hk
      rcases Int.mul_eq_zero.1 this with h3 | h3 <;> omega
end Go.Proofs.YtpfijnklnljccaaDoor
