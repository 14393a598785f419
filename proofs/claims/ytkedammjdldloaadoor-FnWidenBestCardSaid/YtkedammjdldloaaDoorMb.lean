/- The law of the airway that is best widened, as a plain program; no condition. -/
import Derived.Test.YtkedammjdldloaaDoorLm
import Derived.Test.YtkedammjdldloaaDoorLb
import Derived.Test.YtkedammjdldloaaDoorQdWidenBest
namespace Go.Proofs.YtkedammjdldloaaDoor
open Go
set_option linter.unusedVariables false
set_option linter.unusedSimpArgs false

theorem t_drawWidenBest {code : List UInt8} : Tot (p_spec_DrawWidenBest code) fun r => r.1.aw.length ≤ 15 ∧ 0 ≤ r.1.p ∧ r.1.p ≤ 6 := by
  unfold p_spec_DrawWidenBest
  obtain ⟨b, hb, hl⟩ := l_bopen (code := code)
  rw [hb]; simp only [Option.bind_some]
  refine Tot.bind (t_blown hl (by omega)) fun ⟨m, q⟩ h => Tot.ret ?_
  exact h
theorem wF_ok {m : Mine} {a b k : Int} (h : canW m k = true) (hp : prOk m a b = true) : FrOk (wF m a b k) := by
  have P := prOk_iff.1 (show prOk (wid m k) a b = true by rw [prOk_wid h]; exact hp)
  have ok := P.ok
  have i0 := P.i0; have i1 := P.i1; have o0 := P.o0; have o1 := P.o1
  have hi : a.toNat ≤ mm (wid m k) := by unfold mm; omega
  have ho : b.toNat ≤ mm (wid m k) := by unfold mm; omega
  have h1 := rs_nonneg P.cn (mine_in ok) (mine_w ok) hi ho
  have h2 := pv_bd P _ _ hi ho
  have t1 := tr_le (m := wid m k)
  have t2 : 0 < tr (wid m k) := tr_pos.2 (lnk_conn.2 ⟨mineOk_iff.2 ok, P.cn⟩)
  have h3 : rst (wid m k) a b ≤ 823543 := h2
  have h4 : 0 ≤ rst (wid m k) a b := h1
  unfold FrOk wF; simp only; omega
/-- Less, then not greater: less. -/
theorem fl_trans {x y z : Frac} (hx : FrOk x) (hy : FrOk y) (hz : FrOk z) (h1 : fl x y = true) (h2 : fl z y = false) : fl x z = true := by
  unfold fl at *
  rw [decide_eq_true_eq] at h1 ⊢
  rw [decide_eq_false_iff_not] at h2
  refine ⟨hx, hz, ?_⟩
  have a1 := h1.2.2
  have a2 : y.num * z.den ≤ z.num * y.den := by
    apply Classical.byContradiction
    intro hh; exact h2 ⟨hz, hy, by omega⟩
  have d1 := hy.2.2.1; have d2 := hz.2.2.1; have d3 := hx.2.2.1
  have b1 := Int.mul_lt_mul_of_pos_right a1 (show 0 < z.den by omega)
  have b2 := Int.mul_le_mul_of_nonneg_right a2 (show 0 ≤ x.den by omega)
  have c : y.den * (x.num * z.den) < y.den * (z.num * x.den) := by
    have e1 : y.den * (x.num * z.den) = x.num * y.den * z.den := by grind
    have e2 : y.den * (z.num * x.den) = z.num * y.den * x.den := by grind
    have e3 : y.num * x.den * z.den = y.num * z.den * x.den := by grind
    omega
  exact Int.lt_of_mul_lt_mul_left c (by omega)
structure Best (m : Mine) (a b : Int) (K : Nat) (s : Int × Frac) : Prop where
  none : s.1 < 0 → s.1 = -1 ∧ ∀ k : Nat, k < K → canW m (k : Int) = false
  some : 0 ≤ s.1 → s.1 < (K : Int) ∧ canW m s.1 = true ∧ s.2 = wF m a b s.1 ∧ (∀ k : Nat, k < K → canW m (k : Int) = true → fl (wF m a b (k : Int)) s.2 = false ∧ ((k : Int) < s.1 → fl s.2 (wF m a b (k : Int)) = true))
theorem wst_best {m : Mine} {a b : Int} (hp : prOk m a b = true) : ∀ K, Best m a b K (wst m a b K)
  | 0 => ⟨fun _ => ⟨rfl, fun k hk => by omega⟩, fun h => by unfold wst at h; simp only at h; omega⟩
  | K + 1 => by
    have ih := wst_best hp K
    unfold wst
    rw [hp, Bool.and_true]
    generalize wst m a b K = s at *
    cases hc : canW m (K : Int) with
    | false =>
      simp only [Bool.false_and, Bool.false_eq_true, if_false]
      refine ⟨fun h => ⟨(ih.none h).1, fun k hk => ?_⟩, fun h => ?_⟩
      · by_cases e : k = K
        · subst e; exact hc
        · exact (ih.none h).2 k (by omega)
      · obtain ⟨h1, h2, h3, h4⟩ := ih.some h
        refine ⟨by omega, h2, h3, fun k hk hck => ?_⟩
        by_cases e : k = K
        · subst e; rw [hc] at hck; cases hck
        · exact h4 k (by omega) hck
    | true =>
      simp only [Bool.true_and]
      by_cases hu : (decide (s.1 < 0) || fl (wF m a b (K : Int)) s.2) = true
      · rw [if_pos hu]
        refine ⟨fun h => by simp only at h; omega, fun _ => ⟨by simp only; omega, hc, rfl, fun k hk hck => ?_⟩⟩
        simp only
        by_cases e : k = K
        · subst e; exact ⟨fl_irr, fun h => by omega⟩
        · have hkK : k < K := by omega
          by_cases h0 : s.1 < 0
          · rw [(ih.none h0).2 k hkK] at hck; cases hck
          · obtain ⟨h1, h2, h3, h4⟩ := ih.some (by omega)
            have hfl : fl (wF m a b (K : Int)) s.2 = true := by
              rw [decide_eq_false h0, Bool.false_or] at hu; exact hu
            have hj : FrOk s.2 := by rw [h3]; exact wF_ok h2 hp
            have := fl_trans (wF_ok hc hp) hj (wF_ok hck hp) hfl (h4 k hkK hck).1
            exact ⟨fl_asym this, fun _ => this⟩
      · rw [if_neg hu]
        have hu' : (decide (s.1 < 0) || fl (wF m a b (K : Int)) s.2) = false := by simpa using hu
        rw [Bool.or_eq_false_iff, decide_eq_false_iff_not] at hu'
        refine ⟨fun h => absurd h hu'.1, fun h => ?_⟩
        obtain ⟨h1, h2, h3, h4⟩ := ih.some h
        refine ⟨by omega, h2, h3, fun k hk hck => ?_⟩
        by_cases e : k = K
        · subst e; exact ⟨hu'.2, fun hh => by omega⟩
        · exact h4 k (by omega) hck
theorem l_FnWidenBest {code : List UInt8} : p_laws_FnWidenBest code = some true := by
  refine Tot.get ?_
  unfold p_laws_FnWidenBest
  refine Tot.condd (fun _ => Tot.ret rfl) (fun _ => ?_)
  refine Tot.bind t_drawWidenBest fun ⟨m, a, b⟩ ⟨hm, hp0, hp6⟩ => ?_
  simp only at hm hp0 hp6 ⊢
  rw [show (⟨m.p, m.aw⟩ : Mine) = m from rfl, l_implWidenBest (by omega), l_specWidenBest (by omega) (by omega)]
  simp only [Option.bind_some, bne_self_eq_false, cond_false]
  cases hp : prOk m a b with
  | false =>
    have : wbest m a b = -1 := by unfold wbest; rw [wst_none hp]
    rw [this, l_alive]; exact Tot.ret rfl
  | true =>
    have B := wst_best hp m.aw.length
    have ew : (wst m a b m.aw.length).1 = wbest m a b := rfl
    by_cases h0 : wbest m a b < 0
    · have := (B.none h0).1
      rw [ew] at this
      rw [this, l_alive]; exact Tot.ret rfl
    · obtain ⟨h1, h2, h3, h4⟩ := B.some (by omega)
      rw [ew] at h1 h2 h3 h4
      rw [decide_eq_false h0, l_implWiden (by omega)]
      simp only [cond_false, Option.bind_some]
      unfold wide
      rw [if_pos h2]
      simp only
      rw [show (⟨(wid m (wbest m a b)).p, (wid m (wbest m a b)).aw⟩ : Mine) = wid m (wbest m a b) from rfl, l_implAirResist (by rw [wid_len]; omega), ars_wid h2 hp]
      simp only [Option.bind_some]
      rw [loop_all (B := p_laws_FnWidenBest_L0 m a b (wbest m a b) (wF m a b (wbest m a b))) (fun _ => true) m.aw.length false (fun k hk => by
        simp only [p_laws_FnWidenBest_L0]
        rw [show (⟨m.p, m.aw⟩ : Mine) = m from rfl, l_implWiden (by omega), decide_eq_true (by omega), w64_succ (by omega)]
        simp only [cond_true, Option.bind_some]
        unfold wide
        by_cases hc : canW m (k : Int) = true
        · rw [if_pos hc]
          simp only
          rw [show (⟨(wid m (k : Int)).p, (wid m (k : Int)).aw⟩ : Mine) = wid m (k : Int) from rfl, l_implAirResist (by rw [wid_len]; omega), ars_wid hc hp]
          simp only [Option.bind_some, cond_true]
          obtain ⟨g1, g2⟩ := h4 k hk hc
          rw [h3] at g1 g2
          rw [l_implLess, l_implLess, show (⟨(wF m a b (k : Int)).num, (wF m a b (k : Int)).den⟩ : Frac) = wF m a b (k : Int) from rfl, show (⟨(wF m a b (wbest m a b)).num, (wF m a b (wbest m a b)).den⟩ : Frac) = wF m a b (wbest m a b) from rfl, g1]
          simp only [Option.bind_some, cond_false]
          by_cases hlt : (k : Int) < wbest m a b
          · rw [decide_eq_true hlt, g2 hlt]; rfl
          · rw [decide_eq_false hlt]; rfl
        · rw [if_neg hc]
          simp only
          rw [l_implAirResist (by simp)]; rfl) (by
        simp only [p_laws_FnWidenBest_L0]
        rw [decide_eq_false (by omega)]; rfl)]
      rw [show (List.range m.aw.length).all (fun _ => true) = true by simp]
      exact Tot.ret rfl
end Go.Proofs.YtkedammjdldloaaDoor
