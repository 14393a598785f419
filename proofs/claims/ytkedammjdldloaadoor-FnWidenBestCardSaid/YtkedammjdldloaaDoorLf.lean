/- Fractions held against each other: both programs compute the same; no condition. -/
import Derived.Test.YtkedammjdldloaaDoorLa
import Derived.Test.YtkedammjdldloaaDoorQbi
namespace Go.Proofs.YtkedammjdldloaaDoor
open Go
set_option linter.unusedVariables false
set_option linter.unusedSimpArgs false

def FrOk (a : Frac) : Prop := -9999999 ≤ a.num ∧ a.num ≤ 9999999 ∧ 1 ≤ a.den ∧ a.den ≤ 9999999
instance {a : Frac} : Decidable (FrOk a) := by unfold FrOk; infer_instance
def fl (a b : Frac) : Bool := decide (FrOk a ∧ FrOk b ∧ a.num * b.den < b.num * a.den)
theorem mul_bd {x y : Int} (h1 : -9999999 ≤ x) (h2 : x ≤ 9999999) (h3 : 1 ≤ y) (h4 : y ≤ 9999999) : -100000000000000 ≤ x * y ∧ x * y ≤ 100000000000000 := by
  have a1 := Int.mul_le_mul_of_nonneg_right h1 (show 0 ≤ y by omega)
  have a2 := Int.mul_le_mul_of_nonneg_right h2 (show 0 ≤ y by omega)
  omega
theorem l_fits {a : Frac} : p_impl_fracFits a = some (decide (FrOk a)) := by
  unfold p_impl_fracFits p_impl_isWithin
  rw [w64_in (x := -9999999) (by omega) (by omega)]
  by_cases h1 : -9999999 ≤ a.num
  · rw [decide_eq_true h1]
    by_cases h2 : a.num ≤ 9999999
    · simp only [cond_true, Option.bind_some]
      rw [decide_eq_true h2]
      by_cases h3 : 1 ≤ a.den
      · rw [decide_eq_true h3]
        by_cases h4 : a.den ≤ 9999999
        · rw [decide_eq_true h4, decide_eq_true ⟨h1, h2, h3, h4⟩]; rfl
        · rw [decide_eq_false h4, decide_eq_false (p := FrOk a) (fun h => h4 h.2.2.2)]; rfl
      · rw [decide_eq_false h3, decide_eq_false (p := FrOk a) (fun h => h3 h.2.2.1)]; rfl
    · simp only [cond_true, Option.bind_some]
      rw [decide_eq_false h2, decide_eq_false (p := FrOk a) (fun h => h2 h.2.1)]; rfl
  · rw [decide_eq_false h1, decide_eq_false (p := FrOk a) (fun h => h1 h.1)]; rfl
theorem less_of {a b : Frac} (ha : FrOk a) (hb : FrOk b) : decide (w64 (a.num * b.den) < w64 (b.num * a.den)) = fl a b := by
  have m1 := mul_bd ha.1 ha.2.1 hb.2.2.1 hb.2.2.2
  have m2 := mul_bd hb.1 hb.2.1 ha.2.2.1 ha.2.2.2
  rw [w64_in (by omega) (by omega), w64_in (by omega) (by omega)]
  unfold fl
  rw [decide_eq_decide]
  exact ⟨fun h => ⟨ha, hb, h⟩, fun h => h.2.2⟩
theorem l_implLess {a b : Frac} : p_impl_FracLess a b = some (fl a b) := by
  unfold p_impl_FracLess
  have e1 : (⟨a.num, a.den⟩ : Frac) = a := rfl
  have e2 : (⟨b.num, b.den⟩ : Frac) = b := rfl
  rw [e1, e2, l_fits, Option.bind_some, l_fits, Option.bind_some]
  by_cases ha : FrOk a
  · rw [decide_eq_true ha]
    by_cases hb : FrOk b
    · rw [decide_eq_true hb, less_of ha hb]; rfl
    · rw [decide_eq_false hb]
      have : fl a b = false := by unfold fl; rw [decide_eq_false_iff_not]; exact fun h => hb h.2.1
      rw [this]; rfl
  · rw [decide_eq_false ha]
    have : fl a b = false := by unfold fl; rw [decide_eq_false_iff_not]; exact fun h => ha h.1
    rw [this]; rfl
theorem l_in {x a b : Int} : p_spec_l1In x a b = some (decide (a ≤ x ∧ x ≤ b)) := by
  unfold p_spec_l1In
  by_cases h : a ≤ x
  · rw [decide_eq_true h, cond_true]
    congr 1; rw [decide_eq_decide]; omega
  · rw [decide_eq_false h, cond_false, decide_eq_false (fun g => h g.1)]
theorem l_specLess {a b : Frac} : p_spec_FracLess a b = some (fl a b) := by
  unfold p_spec_FracLess
  simp only [l_in, Option.bind_some]
  by_cases h : FrOk a ∧ FrOk b
  · obtain ⟨ha, hb⟩ := h
    rw [decide_eq_true ⟨ha.1, ha.2.1⟩, decide_eq_true ⟨hb.1, hb.2.1⟩, decide_eq_true ⟨ha.2.2.1, ha.2.2.2⟩, decide_eq_true ⟨hb.2.2.1, hb.2.2.2⟩, less_of ha hb]; rfl
  · have : fl a b = false := by unfold fl; rw [decide_eq_false_iff_not]; exact fun g => h ⟨g.1, g.2.1⟩
    rw [this]
    by_cases h1 : -9999999 ≤ a.num ∧ a.num ≤ 9999999
    · rw [decide_eq_true h1, cond_true]
      by_cases h2 : -9999999 ≤ b.num ∧ b.num ≤ 9999999
      · rw [decide_eq_true h2, cond_true]
        by_cases h3 : 1 ≤ a.den ∧ a.den ≤ 9999999
        · rw [decide_eq_true h3, cond_true, decide_eq_false (fun g => h ⟨⟨h1.1, h1.2, h3⟩, h2.1, h2.2, g⟩)]; rfl
        · rw [decide_eq_false h3]; rfl
      · rw [decide_eq_false h2]; rfl
    · rw [decide_eq_false h1]; rfl
theorem fl_asym {a b : Frac} (h : fl a b = true) : fl b a = false := by
  unfold fl at h ⊢
  rw [decide_eq_true_eq] at h
  rw [decide_eq_false_iff_not]
  intro g; have := h.2.2; have := g.2.2; omega
theorem fl_irr {a : Frac} : fl a a = false := by
  unfold fl; rw [decide_eq_false_iff_not]; intro g; have := g.2.2; omega
theorem fl_twice {a : Frac} : fl a ⟨2 * a.num, 2 * a.den⟩ = false := by
  unfold fl; rw [decide_eq_false_iff_not]; intro g
  have h := g.2.2
  simp only at h
  have e1 : a.num * (2 * a.den) = 2 * (a.num * a.den) := by rw [Int.mul_left_comm]
  have e2 : 2 * a.num * a.den = 2 * (a.num * a.den) := Int.mul_assoc _ _ _
  omega
end Go.Proofs.YtkedammjdldloaaDoor
