/- The airway that is best widened: both programs compute the same; no condition but the sizes. -/
import Derived.Test.YtkedammjdldloaaDoorLo
import Derived.Test.YtkedammjdldloaaDoorLg
import Derived.Test.YtkedammjdldloaaDoorLf
import Derived.Test.YtkedammjdldloaaDoorQbb
namespace Go.Proofs.YtkedammjdldloaaDoor
open Go
set_option linter.unusedVariables false
set_option linter.unusedSimpArgs false

theorem prOk_wid {m : Mine} {a b k : Int} (h : canW m k = true) : prOk (wid m k) a b = prOk m a b := by
  unfold prOk; rw [lnk_wid h]; rfl
def wF (m : Mine) (a b k : Int) : Frac := ⟨rst (wid m k) a b, tr (wid m k)⟩
/-- What is best among the first airways. -/
def wst (m : Mine) (a b : Int) : Nat → Int × Frac
  | 0 => (-1, ⟨0, 0⟩)
  | k + 1 => if canW m (k : Int) && prOk m a b && (decide ((wst m a b k).1 < 0) || fl (wF m a b (k : Int)) (wst m a b k).2) then ((k : Int), wF m a b (k : Int)) else wst m a b k
def wbest (m : Mine) (a b : Int) : Int := (wst m a b m.aw.length).1
theorem wst_none {m : Mine} {a b : Int} (h : prOk m a b = false) : ∀ k, wst m a b k = (-1, ⟨0, 0⟩)
  | 0 => rfl
  | k + 1 => by unfold wst; rw [h, Bool.and_false, Bool.false_and, wst_none h k]; rfl
theorem wid_len {m : Mine} {k : Int} : (wid m k).aw.length = m.aw.length := by unfold wid; simp
theorem ars_wid {m : Mine} {a b k : Int} (h : canW m k = true) (hp : prOk m a b = true) : ars (wid m k) a b = (wF m a b k, true) := by
  unfold ars; rw [if_pos (by rw [prOk_wid h]; exact hp)]; rfl
theorem l_implWidenBest {m : Mine} {a b : Int} (h : m.aw.length ≤ 4611686018427387904) : p_impl_WidenBest m a b = some (wbest m a b) := by
  unfold p_impl_WidenBest wbest
  rw [show (⟨m.p, m.aw⟩ : Mine) = m from rfl, l_implAirLinked h, l_isIndex, l_isIndex]
  have hb : (((some (lnk m)).bind fun v8 => cond (!v8) (some true) ((some (decide (0 ≤ a) && decide (a < m.p))).bind fun v12 => cond (!v12) (some true) ((some (decide (0 ≤ b) && decide (b < m.p))).bind fun v16 => some (!v16)))) : O Bool) = some (!prOk m a b) := by
    unfold prOk
    cases lnk m <;> cases (decide (0 ≤ a) && decide (a < m.p)) <;> cases (decide (0 ≤ b) && decide (b < m.p)) <;> rfl
  rw [hb]
  cases hp : prOk m a b with
  | false => rw [wst_none hp]; rfl
  | true =>
    simp only [Option.bind_some, Bool.not_true, cond_false]
    rw [loop_to (B := p_impl_WidenBest_L0 m a b) (fun k => ((wst m a b k).1, (k : Int), (wst m a b k).2.num, (wst m a b k).2.den)) m.aw.length (by rfl) (e := (wst m a b m.aw.length).1) (fun k hk => by
      simp only [p_impl_WidenBest_L0]
      rw [show (⟨m.p, m.aw⟩ : Mine) = m from rfl, l_implWiden h, decide_eq_true (by omega), w64_succ (by omega)]
      simp only [cond_true, Option.bind_some]
      unfold wide
      by_cases hc : canW m (k : Int) = true
      · rw [if_pos hc]
        simp only [Bool.not_true, cond_false]
        rw [show (⟨(wid m (k : Int)).p, (wid m (k : Int)).aw⟩ : Mine) = wid m (k : Int) from rfl, l_implAirResist (by rw [wid_len]; exact h), ars_wid hc hp]
        simp only [Option.bind_some, l_implLess]
        rw [wst, hc, hp]
        simp only [Bool.true_and]
        rw [show (⟨(wF m a b (k : Int)).num, (wF m a b (k : Int)).den⟩ : Frac) = wF m a b (k : Int) from rfl, show (⟨(wst m a b k).2.num, (wst m a b k).2.den⟩ : Frac) = (wst m a b k).2 from rfl]
        cases decide ((wst m a b k).1 < 0) with
        | true => simp
        | false => cases fl (wF m a b (k : Int)) (wst m a b k).2 <;> simp
      · have hc' : canW m (k : Int) = false := by simpa using hc
        rw [if_neg hc, wst, hc']; simp) (by
      simp only [p_impl_WidenBest_L0]
      rw [decide_eq_false (by omega)]; rfl)]
    rfl
theorem l_specWidenBest {m : Mine} {a b : Int} (h : m.aw.length ≤ 4611686018427387904) (hp9 : m.p ≤ 9223372036854775807) : p_spec_WidenBest m a b = some (wbest m a b) := by
  unfold p_spec_WidenBest wbest
  rw [loop_to (B := p_spec_WidenBest_L0 m a b) (fun k => ((wst m a b k).1, (k : Int), (wst m a b k).2.num, (wst m a b k).2.den)) m.aw.length (by rfl) (e := (wst m a b m.aw.length).1) (fun k hk => by
    simp only [p_spec_WidenBest_L0]
    rw [show (⟨m.p, m.aw⟩ : Mine) = m from rfl, l_specWiden h, decide_eq_true (by omega), w64_succ (by omega)]
    simp only [cond_true, Option.bind_some]
    unfold wide
    by_cases hc : canW m (k : Int) = true
    · rw [if_pos hc]
      simp only
      rw [show (⟨(wid m (k : Int)).p, (wid m (k : Int)).aw⟩ : Mine) = wid m (k : Int) from rfl, l_specAirResist (by rw [wid_len]; exact h) (by exact hp9)]
      cases hp : prOk m a b with
      | false =>
        have : ars (wid m (k : Int)) a b = (⟨0, 0⟩, false) := by unfold ars; rw [prOk_wid hc, hp]; rfl
        rw [this, wst, hp, Bool.and_false, Bool.false_and]; simp
      | true =>
        rw [ars_wid hc hp]
        simp only [Option.bind_some, l_specLess, cond_true]
        rw [wst, hc, hp]
        simp only [Bool.true_and]
        rw [show (⟨(wF m a b (k : Int)).num, (wF m a b (k : Int)).den⟩ : Frac) = wF m a b (k : Int) from rfl, show (⟨(wst m a b k).2.num, (wst m a b k).2.den⟩ : Frac) = (wst m a b k).2 from rfl]
        cases decide ((wst m a b k).1 < 0) with
        | true => simp
        | false => cases fl (wF m a b (k : Int)) (wst m a b k).2 <;> simp
    · have hc' : canW m (k : Int) = false := by simpa using hc
      rw [if_neg hc]
      simp only
      rw [l_specAirResist (by simp) (by decide), wst, hc']; simp) (by
    simp only [p_spec_WidenBest_L0]
    rw [decide_eq_false (by omega)]; rfl)]
  rfl
end Go.Proofs.YtkedammjdldloaaDoor
