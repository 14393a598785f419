/- What the reader draws of matrices: it ends, and is small; no condition. -/
import Derived.Test.YtnibfmofkamjoaaDoorLr
import Derived.Test.YtnibfmofkamjoaaDoorQbx
namespace Go.Proofs.YtnibfmofkamjoaaDoor
open Go
set_option linter.unusedVariables false
set_option linter.unusedSimpArgs false

theorem x_pick {b : List UInt8} {p n : Int} (hb : b.length ≤ 2000) (hp : 0 ≤ p ∧ p ≤ 1000000) (hn : n ≤ 4611686018427387904) :
    Tot (p_spec_l20Rd_pick ⟨b, p⟩ n) fun r => r.2 = p + 1 ∧ 0 ≤ r.1 ∧ (1 ≤ n → r.1 < n) := by
  obtain ⟨v, e, h1, h2⟩ := l_pick (b := b) (p := p) (n := n) hb hp.1 (by omega) hn
  exact ⟨_, e, rfl, h1, h2⟩
theorem x_odd {b : List UInt8} {p n : Int} (hb : b.length ≤ 2000) (hp : 0 ≤ p ∧ p ≤ 1000000) (hn : n ≤ 4611686018427387904) :
    Tot (p_spec_l20Rd_odd ⟨b, p⟩ n) fun r => p ≤ r.2 ∧ r.2 ≤ p + 1 := by
  unfold p_spec_l20Rd_odd
  refine Tot.condd (fun h => ?_) (fun h => Tot.ret (by simp only; omega))
  refine Tot.bind (x_pick hb hp hn) fun ⟨v, p'⟩ h => Tot.ret ?_
  simp only at h ⊢; omega
/-- The rows are no longer than six. -/
def Sml (n : Nat) (m : List (List Int)) : Prop := m.length ≤ n ∧ ∀ k, k < m.length → (gx m k).length ≤ 6
theorem sml_app {n : Nat} {m : List (List Int)} {r : List Int} (h : Sml n m) (hr : r.length ≤ 6) : Sml (n + 1) (m ++ [r]) := by
  refine ⟨by have := h.1; simp; omega, fun k hk => ?_⟩
  by_cases e : k < m.length
  · rw [gx_app1 e]; exact h.2 k e
  · have : k = m.length := by simp at hk; omega
    subst this; rw [gx_app2]; exact hr
theorem sml_set {n j : Nat} {m : List (List Int)} {r : List Int} (h : Sml n m) (hr : r.length ≤ 6) : Sml n (m.set j r) := by
  refine ⟨by simpa using h.1, fun k hk => ?_⟩
  rw [List.length_set] at hk
  by_cases e : j = k
  · subst e; rw [gx_set_self hk]; exact hr
  · rw [gx_set_ne e]; exact h.2 k hk
theorem t_matrix {b : List UInt8} {p n : Int} (hb : b.length ≤ 2000) (hp : 0 ≤ p ∧ p ≤ 100000) (hn : n ≤ 1000000) :
    Tot (p_spec_l20Matrix ⟨b, p⟩ n) fun r => p ≤ r.2 ∧ r.2 ≤ p + 1000 ∧ Sml 7 r.1 := by
  simp only [p_spec_l20Matrix]
  refine Tot.bind (x_pick hb (by omega) (by omega)) fun ⟨v4, v5⟩ h4 => ?_
  simp only at h4 ⊢
  refine Tot.bind (x_pick hb (by omega) (by omega)) fun ⟨v8, v9⟩ h8 => ?_
  simp only at h8 ⊢
  refine Tot.bind (R := fun r => p ≤ r.2 ∧ r.2 ≤ p + 100 ∧ (r.1.length : Int) = v4 ∧ (∀ k, k < r.1.length → ((gx r.1 k).length : Int) = v4)) ?_ fun ⟨o13, p14⟩ h13 => ?_
  · refine Tot.loop (fun s => 0 ≤ s.2.1 ∧ s.2.1 ≤ v4 ∧ (s.1.length : Int) = s.2.1 ∧ (∀ k, k < s.1.length → ((gx s.1 k).length : Int) = v4) ∧ p ≤ s.2.2 ∧ s.2.2 ≤ p + 2 + 10 * s.2.1) (fun s => (6 - s.2.1).toNat) (fun ⟨out, k, q⟩ h => ?_) (by simp only [List.length_nil]; exact ⟨by omega, by omega, rfl, fun k hk => by simp at hk, by omega, by omega⟩)
    simp only at h
    obtain ⟨h1, h2, h3, h4', h5, h6⟩ := h
    simp only [p_spec_l20Matrix_L0]
    refine Tot.condd (fun hk => ?_) (fun hk => Tot.ret (by simp only; exact ⟨by omega, by omega, by omega, h4'⟩))
    refine Tot.bind (R := fun r => (r.1.length : Int) = v4 ∧ q ≤ r.2 ∧ r.2 ≤ q + v4) ?_ fun ⟨row, q2⟩ hr => ?_
    · refine Tot.loop (fun s => 0 ≤ s.2.1 ∧ s.2.1 ≤ v4 ∧ (s.1.length : Int) = s.2.1 ∧ s.2.2 = q + s.2.1) (fun s => (6 - s.2.1).toNat) (fun ⟨row, j, q3⟩ h => ?_) (by simp only [List.length_nil]; omega)
      simp only at h
      simp only [p_spec_l20Matrix_L1]
      rw [w64_i (x := 2 + v8) (by omega), w64_i (x := 2 * (2 + v8)) (by omega), w64_i (x := 2 * (2 + v8) + 1) (by omega)]
      refine Tot.condd (fun hj => ?_) (fun hj => Tot.ret (by simp only; omega))
      refine Tot.bind (x_pick hb (by omega) (by omega)) fun ⟨v44, v45⟩ h44 => ?_
      simp only at h44 ⊢
      refine Tot.need (by simp only [List.length_cons, List.length_nil]; omega) (Tot.ret ?_)
      simp only [List.length_append, List.length_cons, List.length_nil]
      rw [w64_i (x := j + 1) (by omega)]; omega
    simp only at hr ⊢
    refine Tot.need (by omega) (Tot.ret ?_)
    simp only [List.length_append, List.length_cons, List.length_nil]
    rw [w64_i (x := k + 1) (by omega)]
    refine ⟨⟨by omega, by omega, by omega, fun i hi => ?_, by omega, by omega⟩, by omega⟩
    by_cases e : i < out.length
    · rw [gx_app1 e]; exact h4' i e
    · have : i = out.length := by omega
      subst this; rw [gx_app2]; exact hr.1
  simp only at h13 ⊢
  have S0 : Sml 6 o13 := ⟨by omega, fun k hk => by have := h13.2.2.2 k hk; omega⟩
  refine Tot.bind (R := fun r => (r.1 = true → 1 < v4) ∧ p14 ≤ r.2 ∧ r.2 ≤ p14 + 1) ?_ fun ⟨x65, p66⟩ h65 => ?_
  · refine Tot.condd (fun h => ?_) (fun h => Tot.ret (by simp only; exact ⟨fun hh => (by cases hh), by omega, by omega⟩))
    refine Tot.bind (x_pick hb (by omega) (by omega)) fun ⟨v72, v73⟩ h72 => Tot.ret ?_
    simp only at h72 ⊢
    exact ⟨fun _ => h, by omega, by omega⟩
  simp only at h65 ⊢
  refine Tot.bind (R := fun m => Sml 6 m ∧ m.length = o13.length ∧ (∀ k, k < m.length → ((gx m k).length : Int) = v4)) ?_ fun m78 h78 => ?_
  · refine Tot.cond (fun hx => ?_) (fun _ => Tot.ret ⟨S0, rfl, h13.2.2.2⟩)
    have := h65.1 hx
    refine Tot.idx (by omega) fun j ej hj => Tot.need (by have := S0.2 j hj; simp; omega) (Tot.idx (by omega) fun i ei hi => Tot.ret ⟨?_, ?_, ?_⟩)
    · exact sml_set S0 (by rw [List.nil_append]; exact S0.2 j hj)
    · simp
    · intro k hk
      rw [List.length_set] at hk
      by_cases e : i = k
      · subst e; rw [gx_set_self hk, List.nil_append]; exact h13.2.2.2 j hj
      · rw [gx_set_ne e]; exact h13.2.2.2 k hk
  refine Tot.bind (x_odd hb (by omega) (by omega)) fun ⟨v96, v97⟩ h96 => ?_
  simp only at h96 ⊢
  obtain ⟨s1, s2, s3⟩ := h78
  refine Tot.cond (fun _ => ?_) (fun _ => Tot.ret ⟨by simp only; omega, by simp only; omega, ⟨by have := s1.1; simp only; omega, s1.2⟩⟩)
  refine Tot.bind (R := fun r => (r.1 = true → 0 < v4) ∧ v97 ≤ r.2 ∧ r.2 ≤ v97 + 1) ?_ fun ⟨x100, p101⟩ h100 => ?_
  · refine Tot.condd (fun h => ?_) (fun h => Tot.ret (by simp only; exact ⟨fun hh => (by cases hh), by omega, by omega⟩))
    refine Tot.bind (x_pick hb (by omega) (by omega)) fun ⟨v107, v108⟩ h107 => Tot.ret ?_
    simp only at h107 ⊢
    exact ⟨fun _ => h, by omega, by omega⟩
  simp only at h100 ⊢
  refine Tot.cond (fun hx => ?_) (fun _ => ?_)
  · have hv := h100.1 hx
    refine Tot.idx (by omega) fun j ej hj => ?_
    refine Tot.bind (x_pick hb (by omega) (by omega)) fun ⟨v118, v119⟩ h118 => ?_
    simp only at h118 ⊢
    have hrow := s3 j (by omega)
    refine Tot.idx (by omega) fun i ei hi => Tot.idx (by omega) fun q eq hq => Tot.ret ⟨by simp only; omega, by simp only; omega, ?_⟩
    have := sml_set (j := j) (r := (gx m78 j).set q (gx ([(-1000), 1000] : List Int) i)) s1 (by rw [List.length_set]; exact s1.2 j (by omega))
    exact ⟨by have := this.1; simp only; omega, this.2⟩
  · refine Tot.need (by have := s1.1; omega) (Tot.ret ⟨by simp only; omega, by simp only; omega, ?_⟩)
    have := sml_app (r := [1]) s1 (by simp)
    exact this
theorem x_bopen {code : List UInt8} : ∃ b : List UInt8, p_spec_l20Open code = some ⟨b, 0⟩ ∧ b.length ≤ 2000 := ⟨_, l_open, open_len⟩
theorem sml_big {m : List (List Int)} (h : Sml 7 m) : m.length ≤ 4611686018427387904 ∧ ∀ k, k < m.length → (gx m k).length ≤ 4611686018427387904 := ⟨by have := h.1; omega, fun k hk => by have := h.2 k hk; omega⟩
end Go.Proofs.YtnibfmofkamjoaaDoor
