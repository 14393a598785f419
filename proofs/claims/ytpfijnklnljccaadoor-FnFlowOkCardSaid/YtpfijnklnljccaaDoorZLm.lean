/- What the reader draws of mines: it ends, and is small; no condition. -/
import Derived.Test.YtpfijnklnljccaaDoorZLr
import Derived.Test.YtpfijnklnljccaaDoorZLa
import Derived.Test.YtpfijnklnljccaaDoorZQ
namespace Go.Proofs.YtpfijnklnljccaaDoor
open Go
set_option linter.unusedVariables false
set_option linter.unusedSimpArgs false

theorem t_pick {b : List UInt8} {p n : Int} (hb : b.length ≤ 2000) (hp : 0 ≤ p ∧ p ≤ 1000000) (hn : n ≤ 4611686018427387904) :
    Tot (p_spec_l20Rd_pick ⟨b, p⟩ n) fun r => r.2 = p + 1 ∧ 0 ≤ r.1 ∧ (1 ≤ n → r.1 < n) := by
  obtain ⟨v, e, h1, h2⟩ := l_pick (b := b) (p := p) (n := n) hb hp.1 (by omega) hn
  exact ⟨_, e, rfl, h1, h2⟩
theorem t_odd {b : List UInt8} {p n : Int} (hb : b.length ≤ 2000) (hp : 0 ≤ p ∧ p ≤ 1000000) (hn : n ≤ 4611686018427387904) :
    Tot (p_spec_l20Rd_odd ⟨b, p⟩ n) fun r => p ≤ r.2 ∧ r.2 ≤ p + 1 := by
  unfold p_spec_l20Rd_odd
  refine Tot.condd (fun h => ?_) (fun h => Tot.ret (by simp only; omega))
  refine Tot.bind (t_pick hb hp hn) fun ⟨v, p'⟩ h => Tot.ret ?_
  simp only at h ⊢; omega
theorem t_mine {b : List UInt8} {p n : Int} (hb : b.length ≤ 2000) (hp : 0 ≤ p ∧ p ≤ 100000) (hn : n ≤ 1000000) :
    Tot (p_spec_l20Mine ⟨b, p⟩ n) fun r => p ≤ r.2 ∧ r.2 ≤ p + 200 ∧ r.1.aw.length ≤ 15 ∧ 0 ≤ r.1.p ∧ r.1.p ≤ 6 := by
  simp only [p_spec_l20Mine]
  refine Tot.bind (t_pick hb (by omega) (by omega)) fun ⟨v4, v5⟩ h4 => ?_
  simp only at h4 ⊢
  refine Tot.bind (t_pick hb (by omega) (by omega)) fun ⟨v9, v10⟩ h9 => ?_
  simp only at h9 ⊢
  refine Tot.bind (R := fun r => p ≤ r.1 ∧ r.1 ≤ p + 20 ∧ r.2.length ≤ 4) ?_ fun ⟨p12, aw13⟩ h12 => ?_
  · refine Tot.loop (fun s => 1 ≤ s.1 ∧ s.1 ≤ 5 ∧ p ≤ s.2.1 ∧ s.2.1 ≤ p + 2 + 3 * (s.1 - 1) ∧ (s.2.2.length : Int) ≤ s.1 - 1) (fun s => (6 - s.1).toNat) (fun ⟨k, q, aw⟩ h => ?_) (by simp only [List.length_nil]; omega)
    simp only at h
    simp only [p_spec_l20Mine_L0]
    rw [w64_i (x := 2 + v4) (by omega)]
    refine Tot.condd (fun hk => ?_) (fun hk => Tot.ret (by simp only; omega))
    refine Tot.bind (R := fun r => q ≤ r.2 ∧ r.2 ≤ q + 1) ?_ fun ⟨x, q1⟩ hq1 => ?_
    · refine Tot.cond (fun _ => Tot.ret (by simp only; omega)) (fun _ => ?_)
      refine Tot.bind (t_pick hb (by omega) (by omega)) fun ⟨a, c⟩ h => Tot.ret ?_
      simp only at h ⊢; omega
    simp only at hq1 ⊢
    refine Tot.cond (fun _ => ?_) (fun _ => Tot.ret (by simp only; rw [w64_i (by omega)]; omega))
    refine Tot.bind (t_pick hb (by omega) (by omega)) fun ⟨v41, v42⟩ h41 => ?_
    simp only at h41 ⊢
    refine Tot.bind (t_pick hb (by omega) (by omega)) fun ⟨v45, v46⟩ h45 => ?_
    simp only at h45 ⊢
    refine Tot.need (by simp only [List.length_cons, List.length_nil]; omega) (Tot.ret ?_)
    simp only [List.length_append, List.length_cons, List.length_nil]
    rw [w64_i (by omega)]; omega
  simp only at h12 ⊢
  refine Tot.bind (t_pick hb (by omega) (by omega)) fun ⟨v57, v58⟩ h57 => ?_
  simp only at h57 ⊢
  refine Tot.bind (R := fun r => p ≤ r.1 ∧ r.1 ≤ p + 60 ∧ r.2.length ≤ 10) ?_ fun ⟨p60, aw61⟩ h60 => ?_
  · refine Tot.loop (fun s => 0 ≤ s.1 ∧ s.1 ≤ 3 ∧ p ≤ s.2.1 ∧ s.2.1 ≤ p + 21 + 3 * (3 - s.1) ∧ (s.2.2.length : Int) ≤ 4 + (3 - s.1)) (fun s => s.1.toNat) (fun ⟨k, q, aw⟩ h => ?_) (by simp only; omega)
    simp only at h
    simp only [p_spec_l20Mine_L1]
    rw [w64_i (x := 2 + v4) (by omega)]
    refine Tot.bind (R := fun x => x = true → 0 < k) ?_ fun x hx => ?_
    · refine Tot.condd (fun hk => Tot.ret (fun _ => hk)) (fun hk => Tot.ret (fun h => by cases h))
    refine Tot.cond (fun hxt => ?_) (fun _ => Tot.ret (by simp only; omega))
    have hk := hx hxt
    refine Tot.bind (t_pick hb (by omega) (by omega)) fun ⟨v83, v84⟩ h83 => ?_
    simp only at h83 ⊢
    refine Tot.bind (t_pick hb (by omega) (by omega)) fun ⟨v87, v88⟩ h87 => ?_
    simp only at h87 ⊢
    refine Tot.bind (t_pick hb (by omega) (by omega)) fun ⟨v91, v92⟩ h91 => ?_
    simp only at h91 ⊢
    refine Tot.cond (fun _ => ?_) (fun _ => Tot.ret (by simp only; rw [w64_i (by omega)]; omega))
    refine Tot.need (by simp only [List.length_cons, List.length_nil]; omega) (Tot.ret ?_)
    simp only [List.length_append, List.length_cons, List.length_nil]
    rw [w64_i (by omega)]; omega
  simp only at h60 ⊢
  rw [w64_i (x := 2 + v4) (by omega)]
  refine Tot.bind (t_odd hb (by omega) (by omega)) fun ⟨v106, v107⟩ h106 => ?_
  simp only at h106 ⊢
  refine Tot.cond (fun _ => ?_) (fun _ => Tot.ret (by simp only; omega))
  refine Tot.bind (t_pick hb (by omega) (by omega)) fun ⟨v111, v112⟩ h111 => ?_
  simp only at h111 ⊢
  refine Tot.cond (fun _ => ?_) (fun _ => Tot.cond (fun _ => ?_) (fun _ => Tot.cond (fun _ => ?_) (fun _ => ?_)))
  · refine Tot.bind (t_pick hb (by omega) (by omega)) fun ⟨v117, v118⟩ h117 => ?_
    simp only at h117 ⊢
    refine Tot.idx (by omega) fun j e hj => Tot.ret ?_
    have : gx ([0, 6] : List Int) j = 0 ∨ gx ([0, 6] : List Int) j = 6 := by
      rcases (show j = 0 ∨ j = 1 by omega) with rfl | rfl
      · exact .inl rfl
      · exact .inr rfl
    simp only; omega
  · refine Tot.need (by simp only [List.length_cons, List.length_nil]; omega) (Tot.ret ?_)
    simp only [List.length_append, List.length_cons, List.length_nil]; omega
  · refine Tot.bind (t_pick hb (by omega) (by omega)) fun ⟨v129, v130⟩ h129 => ?_
    simp only at h129 ⊢
    refine Tot.idx (by omega) fun j e hj => Tot.need (by simp only [List.length_cons, List.length_nil]; omega) (Tot.ret ?_)
    simp only [List.length_append, List.length_cons, List.length_nil]; omega
  · refine Tot.sized (by omega) fun j e => Tot.ret ?_
    simp only [List.length_replicate]; omega
theorem t_place {b : List UInt8} {p : Int} {m : Mine} (hb : b.length ≤ 2000) (hp : 0 ≤ p ∧ p ≤ 100000) (hm : 0 ≤ m.p ∧ m.p ≤ 6) : Tot (p_spec_l20PlaceOf ⟨b, p⟩ m) fun r => p ≤ r.2 ∧ r.2 ≤ p + 10 ∧ -100 ≤ r.1 ∧ r.1 ≤ 100 := by
  simp only [p_spec_l20PlaceOf]
  refine Tot.bind (t_pick hb (by omega) (by omega)) fun ⟨v5, v6⟩ h5 => ?_
  simp only at h5 ⊢
  refine Tot.bind (t_pick hb (by omega) (by omega)) fun ⟨v9, v10⟩ h9 => ?_
  simp only at h9 ⊢
  refine Tot.bind (t_pick hb (by omega) (by omega)) fun ⟨v13, v14⟩ h13 => ?_
  simp only at h13 ⊢
  have a1 : 0 ≤ Int.tdiv v9 39 := Int.tdiv_nonneg (by omega) (by omega)
  have a2 : Int.tdiv v9 39 ≤ 1 := by rw [Int.tdiv_eq_ediv_of_nonneg (by omega)]; omega
  have b1 : 0 ≤ Int.tdiv v13 39 := Int.tdiv_nonneg (by omega) (by omega)
  have b2 : Int.tdiv v13 39 ≤ 1 := by rw [Int.tdiv_eq_ediv_of_nonneg (by omega)]; omega
  refine Tot.ret ?_
  simp only
  rw [w64_i (x := Int.tdiv v9 39) (by omega), w64_i (x := Int.tdiv v13 39) (by omega), w64_i (x := Int.tdiv v9 39 * 6) (by omega), w64_i (x := Int.tdiv v13 39 * 7) (by omega), w64_i (x := v5 + Int.tdiv v9 39 * 6) (by omega), w64_i (by omega)]
  omega
theorem l_bopen {code : List UInt8} : ∃ b : List UInt8, p_spec_l20Open code = some ⟨b, 0⟩ ∧ b.length ≤ 2000 := ⟨_, l_open, open_len⟩
end Go.Proofs.YtpfijnklnljccaaDoor
