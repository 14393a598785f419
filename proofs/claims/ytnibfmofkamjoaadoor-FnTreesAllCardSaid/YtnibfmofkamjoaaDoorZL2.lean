/- What the reader draws of surveys: it ends, and is small; no condition. -/
import Derived.Test.YtnibfmofkamjoaaDoorZLp
import Derived.Test.YtnibfmofkamjoaaDoorZLr
import Derived.Test.YtnibfmofkamjoaaDoorZQ
namespace Go.Proofs.YtnibfmofkamjoaaDoor
open Go
set_option linter.unusedVariables false
set_option linter.unusedSimpArgs false

theorem x_pick {b : List UInt8} {p n : Int} (hb : b.length ≤ 2000) (hp : 0 ≤ p ∧ p ≤ 1000000) (hn : n ≤ 4611686018427387904) :
    Tot (p_spec_l20Rd_pick ⟨b, p⟩ n) fun r => r.2 = p + 1 ∧ 0 ≤ r.1 ∧ (1 ≤ n → r.1 < n) := by
  obtain ⟨v, e, h1, h2⟩ := l_pick (b := b) (p := p) (n := n) hb hp.1 (by omega) hn
  exact ⟨_, e, rfl, h1, h2⟩
theorem x_odd {b : List UInt8} {p n : Int} (hb : b.length ≤ 2000) (hp : 0 ≤ p ∧ p ≤ 1000000) (hn : n ≤ 4611686018427387904) :
    Tot (p_spec_l20Rd_odd ⟨b, p⟩ n) fun r => p ≤ r.2 ∧ r.2 ≤ p + 1 := by
  unfold p_spec_l20Rd_odd
  refine Tot.condd (fun h => ?_) (fun h => Tot.ret (by simp only; omega))
  refine Tot.bind (x_pick hb hp hn) fun ⟨v, p'⟩ h => Tot.ret ?_
  simp only at h ⊢; omega
theorem x_bopen {code : List UInt8} : ∃ b : List UInt8, p_spec_l20Open code = some ⟨b, 0⟩ ∧ b.length ≤ 2000 := ⟨_, l_open, open_len⟩
theorem t_leg {b : List UInt8} {p st n : Int} (hb : b.length ≤ 2000) (hp : 0 ≤ p ∧ p ≤ 900000) (hs : -1000 ≤ st ∧ st ≤ 1000) (hn : n ≤ 1000000) :
    Tot (p_spec_l20Leg ⟨b, p⟩ st n) fun r => p ≤ r.2 ∧ r.2 ≤ p + 20 := by
  simp only [p_spec_l20Leg]
  refine Tot.bind (x_pick hb (by omega) (by omega)) fun ⟨v4, v5⟩ h4 => ?_
  simp only at h4 ⊢
  refine Tot.bind (x_pick hb (by omega) (by omega)) fun ⟨v8, v9⟩ h8 => ?_
  simp only at h8 ⊢
  refine Tot.bind (x_pick hb (by omega) (by omega)) fun ⟨v12, v13⟩ h12 => ?_
  simp only at h12 ⊢
  refine Tot.bind (x_pick hb (by omega) (by omega)) fun ⟨v16, v17⟩ h16 => ?_
  simp only at h16 ⊢
  refine Tot.bind (x_pick hb (by omega) (by omega)) fun ⟨v21, v22⟩ h21 => ?_
  simp only at h21 ⊢
  refine Tot.bind (R := fun _ => True) (Tot.cond (fun _ => Tot.need (by omega) (Tot.ret trivial)) (fun _ => Tot.ret trivial)) fun t24 _ => ?_
  refine Tot.bind (x_odd hb (by omega) (by omega)) fun ⟨v34, v35⟩ h34 => ?_
  simp only at h34 ⊢
  refine Tot.cond (fun _ => ?_) (fun _ => Tot.ret (by simp only; omega))
  refine Tot.bind (x_pick hb (by omega) (by omega)) fun ⟨v39, v40⟩ h39 => ?_
  simp only at h39 ⊢
  refine Tot.cond (fun _ => Tot.ret (by simp only; omega)) (fun _ => ?_)
  refine Tot.cond (fun _ => ?_) (fun _ => ?_)
  · refine Tot.bind (x_pick hb (by omega) (by omega)) fun ⟨v46, v47⟩ h46 => ?_
    simp only at h46 ⊢
    exact Tot.idx (by omega) fun j _ _ => Tot.ret (by simp only; omega)
  · refine Tot.bind (x_pick hb (by omega) (by omega)) fun ⟨v46, v47⟩ h46 => ?_
    simp only at h46 ⊢
    exact Tot.idx (by omega) fun j _ _ => Tot.ret (by simp only; omega)
theorem t_survey {b : List UInt8} {p n : Int} (hb : b.length ≤ 2000) (hp : 0 ≤ p ∧ p ≤ 100000) (hn : n ≤ 1000000) :
    Tot (p_spec_l20Survey ⟨b, p⟩ n) fun r => p ≤ r.2 ∧ r.2 ≤ p + 2000 ∧ r.1.legs.length ≤ 10 ∧ 0 ≤ r.1.st ∧ r.1.st ≤ 7 := by
  simp only [p_spec_l20Survey]
  refine Tot.bind (x_pick hb (by omega) (by omega)) fun ⟨v4, v5⟩ h4 => ?_
  simp only at h4 ⊢
  refine Tot.bind (x_pick hb (by omega) (by omega)) fun ⟨v9, v10⟩ h9 => ?_
  simp only at h9 ⊢
  have e24 : w64 (2 + v4) = 2 + v4 := w64_i (by omega)
  refine Tot.bind (R := fun r => p ≤ r.1 ∧ r.1 ≤ p + 500 ∧ r.2.length ≤ 9) ?_ fun ⟨p12, legs13⟩ h13 => ?_
  · refine Tot.loop (fun s => 1 ≤ s.1 ∧ s.1 ≤ 2 + v4 ∧ p ≤ s.2.1 ∧ s.2.1 ≤ p + 50 * s.1 ∧ (s.2.2.length : Int) < s.1) (fun s => (2 + v4 - s.1).toNat) (fun ⟨k, q, legs⟩ h => ?_) (by simp only [List.length_nil]; omega)
    simp only at h
    simp only [p_spec_l20Survey_L0, e24]
    refine Tot.condd (fun hk => ?_) (fun hk => Tot.ret (by simp only; omega))
    rw [w64_i (x := k + 1) (by omega)]
    refine Tot.bind (R := fun r => q ≤ r.2 ∧ r.2 ≤ q + 1) ?_ fun ⟨x26, p27⟩ h26 => ?_
    · refine Tot.cond (fun _ => Tot.ret (by simp only; omega)) (fun _ => ?_)
      refine Tot.bind (x_pick hb (by omega) (by omega)) fun ⟨v33, v34⟩ h33 => Tot.ret ?_
      simp only at h33 ⊢; omega
    simp only at h26 ⊢
    refine Tot.cond (fun _ => ?_) (fun _ => Tot.ret (by simp only; omega))
    refine Tot.bind (t_leg hb (by omega) (by omega) (by omega)) fun ⟨v41, v42⟩ h41 => ?_
    simp only at h41 ⊢
    refine Tot.bind (x_pick hb (by omega) (by omega)) fun ⟨v46, v47⟩ h46 => ?_
    simp only at h46 ⊢
    refine Tot.bind (x_pick hb (by omega) (by omega)) fun ⟨v50, v51⟩ h50 => ?_
    simp only at h50 ⊢
    refine Tot.bind (R := fun _ => True) (Tot.cond (fun _ => by unfold p_spec_LegBack; exact Tot.ret trivial) (fun _ => Tot.ret trivial)) fun ⟨f, t, e, n', u⟩ _ => ?_
    refine Tot.need (by simp only [List.length_cons, List.length_nil]; omega) (Tot.ret ?_)
    simp only [List.length_append, List.length_cons, List.length_nil]; omega
  simp only at h13 ⊢
  refine Tot.bind (x_pick hb (by omega) (by omega)) fun ⟨v77, v78⟩ h77 => ?_
  simp only at h77 ⊢
  refine Tot.bind (x_pick hb (by omega) (by omega)) fun ⟨v81, v82⟩ h81 => ?_
  simp only at h81 ⊢
  refine Tot.bind (R := fun r => p ≤ r.1 ∧ r.1 ≤ p + 1000 ∧ r.2.length ≤ 9) ?_ fun ⟨p84, legs85⟩ h85 => ?_
  · refine Tot.loop (fun s => 0 ≤ s.1 ∧ s.1 ≤ v81 ∧ p ≤ s.2.1 ∧ s.2.1 ≤ p + 600 + 50 * (v81 - s.1) ∧ s.2.2.length ≤ 9) (fun s => s.1.toNat) (fun ⟨k, q, legs⟩ h => ?_) (by simp only; omega)
    simp only at h
    simp only [p_spec_l20Survey_L1, e24]
    rw [w64_i (x := k - 1) (by omega)]
    refine Tot.bind (R := fun x => x = true → 0 < k ∧ legs.length < 9) ?_ fun x97 h97 => ?_
    · refine Tot.condd (fun h1 => Tot.ret (fun h2 => ⟨h1, by have := of_decide_eq_true h2; omega⟩)) (fun _ => Tot.ret (fun h => by cases h))
    refine Tot.cond (fun hx => ?_) (fun _ => Tot.ret (by simp only; omega))
    obtain ⟨hk, hl⟩ := h97 hx
    refine Tot.bind (t_leg hb (by omega) (by omega) (by omega)) fun ⟨v107, v108⟩ h107 => ?_
    simp only at h107 ⊢
    rw [l_specTreePlace (by simp only; omega), l_specTreePlace (by simp only; omega)]
    simp only [Option.bind_some, p_spec_WayTimes, p_spec_WayAdd, l_l1In]
    refine Tot.bind (R := fun _ => True) (Tot.cond (fun _ => Tot.cond (fun _ => Tot.cond (fun _ => Tot.cond (fun _ => Tot.ret trivial) (fun _ => Tot.ret trivial)) (fun _ => Tot.ret trivial)) (fun _ => Tot.ret trivial)) (fun _ => Tot.ret trivial)) fun x131 _ => ?_
    refine Tot.bind (R := fun _ => True) (Tot.cond (fun _ => Tot.ret trivial) (fun _ => Tot.ret trivial)) fun ⟨e, n', u⟩ _ => ?_
    rw [l_specLegValid]
    simp only [Option.bind_some]
    refine Tot.cond (fun _ => ?_) (fun _ => Tot.ret (by simp only; omega))
    refine Tot.need (by simp only [List.length_cons, List.length_nil]; omega) (Tot.ret ?_)
    simp only [List.length_append, List.length_cons, List.length_nil]; omega
  simp only at h85 ⊢
  refine Tot.bind (x_odd hb (by omega) (by omega)) fun ⟨v171, v172⟩ h171 => ?_
  simp only at h171 ⊢
  rw [e24]
  refine Tot.cond (fun _ => ?_) (fun _ => Tot.ret (by simp only; omega))
  refine Tot.bind (x_pick hb (by omega) (by omega)) fun ⟨v176, v177⟩ h176 => ?_
  simp only at h176 ⊢
  refine Tot.cond (fun _ => ?_) (fun _ => Tot.cond (fun _ => ?_) (fun _ => ?_))
  · refine Tot.bind (x_pick hb (by omega) (by omega)) fun ⟨v182, v183⟩ h182 => ?_
    simp only at h182 ⊢
    refine Tot.idx (by omega) fun j ej hj => Tot.ret ?_
    have : gx ([0, 7] : List Int) j = 0 ∨ gx ([0, 7] : List Int) j = 7 := by
      have : j = 0 ∨ j = 1 := by omega
      rcases this with rfl | rfl
      · exact .inl rfl
      · exact .inr rfl
    simp only; omega
  · refine Tot.bind (t_leg hb (by omega) (by omega) (by omega)) fun ⟨v188, v189⟩ h188 => ?_
    simp only at h188 ⊢
    refine Tot.need (by simp only [List.length_cons, List.length_nil]; omega) (Tot.ret ?_)
    simp only [List.length_append, List.length_cons, List.length_nil]; omega
  · refine Tot.sized (by omega) fun j ej => Tot.ret ?_
    simp only [List.length_replicate]; omega
/-- The ends of legs are stations. -/
def Ends (n : Int) (l : List Leg) : Prop := ∀ k, k < l.length → 0 ≤ (gx l k).f ∧ (gx l k).f < n ∧ 0 ≤ (gx l k).t ∧ (gx l k).t < n
theorem ends_app {n : Int} {l : List Leg} {g : Leg} (h : Ends n l) (hg : 0 ≤ g.f ∧ g.f < n ∧ 0 ≤ g.t ∧ g.t < n) : Ends n (l ++ [g]) := fun k hk => by
  by_cases e : k < l.length
  · rw [gx_app1 e]; exact h k e
  · have : k = l.length := by simp at hk; omega
    subst this; rw [gx_app2]; exact hg
theorem t_linked {b : List UInt8} {p n : Int} (hb : b.length ≤ 2000) (hp : 0 ≤ p ∧ p ≤ 90000) (hn : n ≤ 1000000) :
    Tot (p_spec_l20Linked ⟨b, p⟩ n) fun r => p ≤ r.2 ∧ r.2 ≤ p + 4000 ∧ r.1.legs.length ≤ 10 ∧ 0 ≤ r.1.st ∧ r.1.st ≤ 7 := by
  simp only [p_spec_l20Linked]
  refine Tot.bind (t_survey hb (by omega) (by omega)) fun ⟨v4, v5⟩ h4 => ?_
  simp only at h4 ⊢
  refine Tot.bind (R := fun r => p ≤ r.2 ∧ r.2 ≤ p + 2001 ∧ (r.1 = true → 1 ≤ v4.st ∧ v4.st ≤ 6)) ?_ fun ⟨x8, p9⟩ h8 => ?_
  · refine Tot.bind (x_pick hb (by omega) (by omega)) fun ⟨v14, v15⟩ h14 => ?_
    simp only at h14 ⊢
    refine Tot.condd (fun _ => ?_) (fun _ => Tot.ret (by simp only; exact ⟨by omega, by omega, fun h => (by cases h)⟩))
    rw [l_l1In]
    refine Tot.ret ?_
    simp only [Bool.and_eq_true, decide_eq_true_eq]
    exact ⟨by omega, by omega, fun h => h⟩
  simp only at h8 ⊢
  refine Tot.cond (fun hx => ?_) (fun _ => Tot.ret (by simp only; omega))
  have hst := h8.2.2 hx
  have hm : 1 ≤ min v4.st 5 ∧ min v4.st 5 ≤ 5 := by omega
  generalize hM : min v4.st 5 = M at *
  refine Tot.bind (R := fun l => l.length ≤ 10 ∧ Ends M l) ?_ fun legs26 h26 => ?_
  · refine Tot.loop (fun s => 0 ≤ s.2 ∧ s.2 ≤ v4.legs.length ∧ (s.1.length : Int) ≤ s.2 ∧ Ends M s.1) (fun s => (v4.legs.length - s.2).toNat) (fun ⟨l, k⟩ h => ?_) (by simp only [List.length_nil]; exact ⟨by omega, by omega, by omega, fun k hk => by simp at hk⟩)
    simp only at h
    obtain ⟨h1, h2, h3, h5⟩ := h
    simp only [p_spec_l20Linked_L0, hM]
    refine Tot.condd (fun hk => ?_) (fun hk => Tot.ret (by simp only; exact ⟨by omega, h5⟩))
    rw [w64_i (x := k + 1) (by omega)]
    refine Tot.idx (by omega) fun j ej hj => ?_
    rw [l_specLegValid]
    simp only [Option.bind_some]
    refine Tot.cond (fun hv => ?_) (fun _ => Tot.ret ⟨⟨by simp only; omega, by simp only; omega, by simp only; omega, h5⟩, by simp only; omega⟩)
    rw [Bool.and_eq_true] at hv
    have g := legOk_iff.1 hv.2
    refine Tot.need (by simp only [List.length_cons, List.length_nil]; omega) (Tot.ret ⟨⟨by simp only; omega, by simp only; omega, by simp only [List.length_append, List.length_cons, List.length_nil]; omega, ends_app h5 ⟨g.f0, g.f1, g.t0, g.t1⟩⟩, by simp only; omega⟩)
  refine Tot.bind (R := fun r => r.1.length ≤ 10 ∧ p ≤ r.2 ∧ r.2 ≤ p + 3900) ?_ fun ⟨legs51, p52⟩ h51 => Tot.ret (by simp only at h51 ⊢; omega)
  refine Tot.loop (fun s => 1 ≤ s.2.1 ∧ s.2.1 ≤ M ∧ s.1.length ≤ 10 ∧ Ends M s.1 ∧ p ≤ s.2.2 ∧ s.2.2 ≤ p + 2001 + 50 * s.2.1) (fun s => (M - s.2.1).toNat) (fun ⟨l, k, q⟩ h => ?_) (by simp only; exact ⟨by omega, by omega, h26.1, h26.2, by omega, by omega⟩)
  simp only at h
  obtain ⟨h1, h2, h3, h5, h6, h7⟩ := h
  simp only [p_spec_l20Linked_L1, hM]
  refine Tot.condd (fun hk => ?_) (fun hk => Tot.ret (by simp only; omega))
  rw [w64_i (x := k + 1) (by omega), l_l1All (by omega)]
  simp only [Option.bind_some]
  rw [l_l1Parts (s := ⟨M, l⟩) (n := M.toNat) (by simp only; omega) (by omega) (by simp only; omega) (by rw [row1_len]; omega) (fun i hi => by rw [row1_len] at hi; rw [row1_gx hi]; simp only; omega) h5]
  simp only [Option.bind_some]
  refine Tot.bind (R := fun x => x = true → l.length < 9) ?_ fun x hx => ?_
  · refine Tot.idx (by rw [pl_len]; omega) fun j ej hj => ?_
    refine Tot.cond (fun _ => Tot.ret (fun h => by have := of_decide_eq_true h; omega)) (fun _ => Tot.ret (fun h => by cases h))
  refine Tot.cond (fun hx2 => ?_) (fun _ => Tot.ret ⟨⟨by simp only; omega, by simp only; omega, h3, h5, by simp only; omega, by simp only; omega⟩, by simp only; omega⟩)
  have := hx hx2
  refine Tot.bind (t_leg hb (by omega) (by omega) (by omega)) fun ⟨v82, v83⟩ h82 => ?_
  simp only at h82 ⊢
  refine Tot.bind (x_pick hb (by omega) (by omega)) fun ⟨v87, v88⟩ h87 => ?_
  simp only at h87 ⊢
  refine Tot.need (by simp only [List.length_cons, List.length_nil]; omega) (Tot.ret ⟨⟨by simp only; omega, by simp only; omega, by simp only [List.length_append, List.length_cons, List.length_nil]; omega, ends_app h5 (by simp only; omega), by simp only; omega, by simp only; omega⟩, by simp only; omega⟩)
end Go.Proofs.YtnibfmofkamjoaaDoor
