/- The spec's loops, and the flows that the reader draws along them: they end, and are small; no condition. -/
import Derived.Test.YtpfijnklnljccaaDoorZLp
import Derived.Test.YtpfijnklnljccaaDoorZLq
import Derived.Test.YtpfijnklnljccaaDoorZLm
import Derived.Test.YtpfijnklnljccaaDoorZQ
namespace Go.Proofs.YtpfijnklnljccaaDoor
open Go
set_option linter.unusedVariables false
set_option linter.unusedSimpArgs false

theorem wk_mem {s : Survey} {use : List Int} : ∀ {l : List Step} {v t : Int}, Wk s use v t l → ∀ x ∈ l, x.i ∈ use
  | [], _, _, _, x, hx => by cases hx
  | y :: l, v, t, ⟨h1, h2, h3⟩, x, hx => by
    rcases List.mem_cons.1 hx with rfl | hx
    · exact h1
    · exact wk_mem h3 x hx
/-- Steps over legs that there are. -/
def Sts (n : Nat) (l : List Step) : Prop := l.length ≤ 65 ∧ ∀ x ∈ l, 0 ≤ x.i ∧ x.i < (n : Int)
theorem t_specWay {s : Survey} {a b : Int} (h : s.legs.length ≤ 1000) (hs : 0 ≤ s.st ∧ s.st ≤ 1000) : Tot (p_spec_TreeWay s a b) fun r => Sts s.legs.length r.1 ∨ r.2 = false := by
  cases hv : surveyOk s with
  | false =>
    unfold p_spec_TreeWay
    rw [show (⟨s.st, s.legs⟩ : Survey) = s from rfl, l_specSurveyValid (by omega), hv]
    exact Tot.ret (.inr rfl)
  | true =>
    have ok := surveyOk_iff.1 hv
    have p1 := ok.p1; have p6 := ok.p6
    by_cases h1 : (0 ≤ a ∧ a < s.st) ∧ (0 ≤ b ∧ b < s.st)
    · obtain ⟨x, hx⟩ := Int.eq_ofNat_of_zero_le h1.1.1
      obtain ⟨y, hy⟩ := Int.eq_ofNat_of_zero_le h1.2.1
      subst hx; subst hy
      refine Tot.mono (l_specTreeWay ok h1.1.2 h1.2.2) fun ⟨l, o⟩ hr => ?_
      cases o with
      | false => exact .inr rfl
      | true =>
        obtain ⟨w1, w2⟩ := hr.1 rfl
        have w3 : l.length ≤ 64 := w2
        refine .inl ⟨by simp only; omega, fun x hx => ?_⟩
        exact tl_mem _ (wk_mem w1 x hx)
    · unfold p_spec_TreeWay
      rw [show (⟨s.st, s.legs⟩ : Survey) = s from rfl, l_specSurveyValid (by omega), hv]
      simp only [Option.bind_some, Bool.not_true, cond_false]
      rw [l_l1In, l_l1In, w64_i (x := s.st - 1) (by omega)]
      have : ((decide (0 ≤ a) && decide (a ≤ s.st - 1)) && (decide (0 ≤ b) && decide (b ≤ s.st - 1))) = false := by
        rw [and_dec, and_dec, and_dec, decide_eq_false]; omega
      cases h2 : (decide (0 ≤ a) && decide (a ≤ s.st - 1))
      · exact Tot.ret (.inr rfl)
      · rw [h2, Bool.true_and] at this
        rw [this]; exact Tot.ret (.inr rfl)
theorem t_specLoop {s : Survey} {k : Int} (h : s.legs.length ≤ 1000) (hs : 0 ≤ s.st ∧ s.st ≤ 1000) : Tot (p_spec_LoopSteps s k) fun r => Sts s.legs.length r.1 := by
  have no : Sts s.legs.length [] := ⟨by simp, fun x hx => by cases hx⟩
  unfold p_spec_LoopSteps
  rw [show (⟨s.st, s.legs⟩ : Survey) = s from rfl, l_specSurveyValid (by omega), l_specTreeLegs (by omega), l_l1In, w64_i (x := ((s.legs.length : Nat) : Int) - 1) (by omega)]
  cases hv : surveyOk s with
  | false => exact Tot.ret no
  | true =>
    have ok := surveyOk_iff.1 hv
    have p1 := ok.p1; have p6 := ok.p6; have n9 := ok.n9
    simp only [Option.bind_some, Bool.not_true, cond_false, if_true]
    by_cases hk : 0 ≤ k ∧ k ≤ (s.legs.length : Int) - 1
    · obtain ⟨j, rfl⟩ := Int.eq_ofNat_of_zero_le hk.1
      have hj : j < s.legs.length := by omega
      rw [decide_eq_true hk.1, decide_eq_true hk.2]
      have := tl_few ok
      rw [l_l1Has (by omega)]
      simp only [Bool.and_self, Bool.not_true, Option.bind_some, cond_false]
      refine Tot.cond (fun _ => Tot.ret no) (fun _ => ?_)
      have a := ok.lg j hj
      obtain ⟨x, hx⟩ := Int.eq_ofNat_of_zero_le a.f0
      obtain ⟨y, hy⟩ := Int.eq_ofNat_of_zero_le a.t0
      have a1 := a.f1; have a2 := a.t1
      rw [idx_at hj, hx, hy]
      have same : sP s y = sP s x := by
        have := fj_eq (P := pid) (e := eL c0 (gx s.legs j)) (E := s.legs.map (eL c0)) (List.mem_map.2 ⟨_, gx_mem hj, rfl⟩)
        simp only [eL, hx, hy, Int.toNat_natCast] at this
        exact this.symm
      refine Tot.bind (l_specTreeWay ok (by omega) (by omega)) fun ⟨l, o⟩ hr => ?_
      simp only at hr
      obtain ⟨w1, w2⟩ := hr.1 (hr.2 same)
      refine Tot.need (by simp only [List.length_cons, List.length_nil]; omega) (Tot.ret ⟨by simp only [List.singleton_append, List.length_cons]; omega, fun z hz => ?_⟩)
      rcases List.mem_cons.1 hz with rfl | hz
      · exact ⟨by simp only; omega, by simp only; omega⟩
      · exact tl_mem _ (wk_mem w1 z hz)
    · have : (decide (0 ≤ k) && decide (k ≤ (s.legs.length : Int) - 1)) = false := by rw [and_dec, decide_eq_false hk]
      rw [this]; exact Tot.ret no
/-- Numbers within bounds. -/
def Wi (B : Int) (l : List Int) : Prop := ∀ k, k < l.length → -B ≤ gx l k ∧ gx l k ≤ B
theorem wi_set {B : Int} {l : List Int} {j : Nat} {v : Int} (h : Wi B l) (hj : j < l.length) (hv : -B ≤ v ∧ v ≤ B) : Wi B (l.set j v) := fun k hk => by
  rw [List.length_set] at hk
  rw [gx_set hj]
  split
  · exact hv
  · exact h k hk
theorem wi_mono {B C : Int} {l : List Int} (h : Wi B l) (hb : B ≤ C) : Wi C l := fun k hk => by have := h k hk; omega
theorem t_flow {b : List UInt8} {p : Int} (hb : b.length ≤ 2000) (hp : 0 ≤ p ∧ p ≤ 1000) :
    Tot (p_spec_l20Flow ⟨b, p⟩) fun r => r.1.aw.length ≤ 15 ∧ 0 ≤ r.1.p ∧ r.1.p ≤ 6 ∧ (-2 ≤ r.2.2.2.1 ∧ r.2.2.2.1 ≤ 6) ∧ r.2.2.2.2.1.length = r.1.aw.length ∧ Wi 5000 r.2.2.2.2.1 ∧ p ≤ r.2.2.2.2.2 ∧ r.2.2.2.2.2 ≤ p + 1000 := by
  simp only [p_spec_l20Flow]
  refine Tot.bind (t_mine hb (by omega) (by omega)) fun ⟨m, q⟩ h => ?_
  simp only at h ⊢
  obtain ⟨hq1, hq2, hm, hm0, hm6⟩ := h
  rw [show (⟨m.p, m.aw⟩ : Mine) = m from rfl]
  refine Tot.bind (t_place hb (by omega) ⟨hm0, hm6⟩) fun ⟨a, q2⟩ h2 => ?_
  simp only at h2 ⊢
  refine Tot.bind (t_place hb (by omega) ⟨hm0, hm6⟩) fun ⟨o, q3⟩ h3 => ?_
  simp only at h3 ⊢
  refine Tot.bind (t_pick hb (by omega) (by omega)) fun ⟨v17, q4⟩ h4 => ?_
  simp only at h4 ⊢
  have hv17 : -2 ≤ v17 - 2 ∧ v17 - 2 ≤ 6 := by omega
  have e17 : w64 (v17 - 2) = v17 - 2 := w64_i (by omega)
  rw [l_l3Survey (by omega)]
  simp only [Option.bind_some, e17]
  have hsl : (sM m).legs.length = m.aw.length := sM_len
  have hss : 0 ≤ (sM m).st ∧ (sM m).st ≤ 1000 := by show 0 ≤ m.p ∧ m.p ≤ 1000; omega
  refine Tot.bind (t_specWay (by omega) hss) fun ⟨way, okw⟩ hway => ?_
  simp only at hway ⊢
  rw [sized_at (by omega)]
  -- the way
  refine Tot.bind (R := fun l => l.length = m.aw.length ∧ Wi 100 l) ?_ fun l30 ⟨hl1, hl2⟩ => ?_
  · refine Tot.loop (fun z => 0 ≤ z.1 ∧ z.1 ≤ 1000 ∧ z.2.length = m.aw.length ∧ Wi 100 z.2) (fun z => (1000 - z.1).toNat) (fun ⟨k, l⟩ ⟨k0, k1, hl, hw⟩ => ?_) ⟨by simp only; omega, by simp only; omega, by simp, fun k hk => by
      simp only [List.length_replicate] at hk
      simp only
      rw [gx_rep hk]; omega⟩
    simp only at k0 k1 hl hw
    simp only [p_spec_l20Flow_L0, e17]
    refine Tot.bind (R := fun x => x = true → k < way.length ∧ okw = true) (Tot.condd (fun h => Tot.ret fun h2 => ⟨by omega, h2⟩) (fun _ => Tot.ret fun h => (by cases h))) fun x hx => ?_
    refine Tot.cond (fun h => ?_) (fun _ => Tot.ret ⟨hl, hw⟩)
    obtain ⟨x1, x2⟩ := hx h
    have hst := hway.resolve_right (by rw [x2]; simp)
    have hs1 := hst.1
    refine Tot.idx (by omega) fun j ej hj => ?_
    have hx2 := hst.2 _ (gx_mem hj)
    rw [w64_i (x := k + 1) (by omega)]
    refine Tot.idx (by omega) fun i ei hi => ?_
    refine Tot.cond (fun _ => Tot.ret ⟨⟨by simp only; omega, by simp only; omega, by simp only [List.length_set]; exact hl, ?_⟩, by simp only; omega⟩) (fun _ => Tot.ret ⟨⟨by simp only; omega, by simp only; omega, by simp only [List.length_set]; exact hl, ?_⟩, by simp only; omega⟩)
    · rw [w64_i (x := -(v17 - 2)) (by omega)]
      exact wi_set (wi_set hw (by omega) (by omega)) (by rw [List.length_set]; omega) (by omega)
    · exact wi_set hw (by omega) (by omega)
  -- the loops
  refine Tot.bind (R := fun r => p ≤ r.1 ∧ r.1 ≤ p + 500 ∧ r.2.length = m.aw.length ∧ Wi 4600 r.2) ?_ fun ⟨q5, l5⟩ ⟨g1, g2, g3, g4⟩ => ?_
  · refine Tot.loop (fun z => 0 ≤ z.1 ∧ z.1 ≤ m.aw.length ∧ (p ≤ z.2.1 ∧ z.2.1 ≤ q4 + z.1) ∧ z.2.2.length = m.aw.length ∧ Wi (100 + 300 * z.1) z.2.2) (fun z => (m.aw.length - z.1).toNat) (fun ⟨k, q, l⟩ ⟨k0, k1, hq, hl, hw⟩ => ?_) ⟨by simp only; omega, by simp only; omega, by simp only; omega, hl1, hl2⟩
    simp only at k0 k1 hq hl hw
    simp only [p_spec_l20Flow_L1]
    rw [show (⟨m.p, m.aw⟩ : Mine) = m from rfl, l_l3Survey (by omega)]
    refine Tot.condd (fun hk => ?_) (fun hk => Tot.ret ⟨by simp only; omega, by simp only; omega, hl, wi_mono hw (by omega)⟩)
    simp only [Option.bind_some]
    refine Tot.bind (t_specLoop (by omega) hss) fun ⟨lp, can⟩ hlp => ?_
    simp only at hlp ⊢
    refine Tot.bind (t_pick hb (by omega) (by omega)) fun ⟨v77, q6⟩ h6 => ?_
    simp only at h6 ⊢
    have e77 : w64 (v77 - 3) = v77 - 3 := w64_i (by omega)
    have hs1 := hlp.1
    refine Tot.bind (R := fun l => l.length = m.aw.length ∧ Wi (100 + 300 * (k + 1)) l) ?_ fun l7 ⟨hl7, hw7⟩ => Tot.ret ?_
    · refine Tot.loop (fun z => 0 ≤ z.1 ∧ z.1 ≤ lp.length ∧ z.2.length = m.aw.length ∧ Wi (100 + 300 * k + 4 * z.1) z.2) (fun z => (lp.length - z.1).toNat) (fun ⟨j, l⟩ ⟨j0, j1, hl, hw⟩ => ?_) ⟨by simp only; omega, by simp only; omega, hl, wi_mono hw (by simp only; omega)⟩
      simp only at j0 j1 hl hw
      simp only [p_spec_l20Flow_L2, e77]
      refine Tot.bind (R := fun x => x = true → j < lp.length) (Tot.condd (fun h => Tot.ret fun _ => h) (fun _ => Tot.ret fun h => (by cases h))) fun x hx => ?_
      refine Tot.cond (fun h => ?_) (fun _ => Tot.ret ⟨hl, wi_mono hw (by omega)⟩)
      have hj := hx h
      refine Tot.idx (by omega) fun i ei hi => ?_
      refine Tot.bind (R := fun x => -3 ≤ x ∧ x ≤ 3) (Tot.cond (fun _ => Tot.ret (by rw [w64_i (by omega)]; omega)) (fun _ => Tot.ret (by omega))) fun x hx3 => ?_
      refine Tot.idx (by omega) fun i2 ei2 hi2 => ?_
      have hx2 := hlp.2 _ (gx_mem hi2)
      rw [w64_i (x := j + 1) (by omega)]
      refine Tot.idx (by omega) fun y ey hy => Tot.ret ?_
      have hb2 := hw y (by omega)
      rw [w64_i (x := gx l y + x) (by omega)]
      refine ⟨⟨by simp only; omega, by simp only; omega, by simp only [List.length_set]; exact hl, ?_⟩, by simp only; omega⟩
      exact wi_set (wi_mono hw (by simp only; omega)) (by omega) (by simp only; omega)
    · rw [w64_i (x := k + 1) (by omega)]
      exact ⟨⟨by simp only; omega, by simp only; omega, by simp only; omega, hl7, hw7⟩, by simp only; omega⟩
  simp only at g1 g2 g3 g4 ⊢
  refine Tot.bind (R := fun r => (r.1 = true → 0 < m.aw.length) ∧ p ≤ r.2 ∧ r.2 ≤ p + 600) ?_ fun ⟨x, q8⟩ h8 => ?_
  · refine Tot.bind (t_odd hb (by omega) (by omega)) fun ⟨v, q9⟩ h9 => ?_
    simp only at h9 ⊢
    exact Tot.cond (fun _ => Tot.ret ⟨fun h => by have := of_decide_eq_true h; omega, by simp only; omega, by simp only; omega⟩) (fun _ => Tot.ret ⟨fun h => (by cases h), by simp only; omega, by simp only; omega⟩)
  simp only at h8 ⊢
  refine Tot.bind (R := fun l => l.length = m.aw.length ∧ Wi 5000 l) ?_ fun l9 h9 => Tot.ret ⟨hm, hm0, hm6, hv17, h9.1, h9.2, by simp only; omega, by simp only; omega⟩
  refine Tot.cond (fun hx => ?_) (fun _ => Tot.ret ⟨g3, wi_mono g4 (by omega)⟩)
  have := h8.1 hx
  refine Tot.idx (by omega) fun j ej hj => Tot.ret ?_
  have hb2 := g4 j (by omega)
  rw [w64_i (x := gx l5 j + 1) (by omega)]
  exact ⟨by rw [List.length_set]; exact g3, wi_set (wi_mono g4 (by omega)) (by omega) (by omega)⟩
end Go.Proofs.YtpfijnklnljccaaDoor
