/- Wider airways: both programs compute the same; no condition but the sizes. -/
import Derived.Test.YtkedammjdldloaaDoorLc
import Derived.Test.YtkedammjdldloaaDoorQbi
namespace Go.Proofs.YtkedammjdldloaaDoor
open Go
set_option linter.unusedVariables false
set_option linter.unusedSimpArgs false

def wideA (a : Airway) : Airway := { a with w := a.w + 1 }
def canW (m : Mine) (k : Int) : Bool := mineOk m && (decide (0 ≤ k) && decide (k < (m.aw.length : Int)) && !decide ((gx m.aw k.toNat).w = 6))
def wid (m : Mine) (k : Int) : Mine := ⟨m.p, m.aw.set k.toNat (wideA (gx m.aw k.toNat))⟩
def wide (m : Mine) (k : Int) : Mine × Bool := if canW m k then (wid m k, true) else (⟨0, []⟩, false)
theorem l_CloneA {l : List Airway} (h : l.length ≤ 1073741824) : p_slices_Clone_impl_Airway_impl_Airway l = some l := by
  unfold p_slices_Clone_impl_Airway_impl_Airway; rw [need_of (by simpa using h)]; rfl
theorem canW_iff {m : Mine} {k : Int} : canW m k = true ↔ mineOk m = true ∧ 0 ≤ k ∧ k < m.aw.length ∧ (gx m.aw k.toNat).w ≠ 6 := by
  unfold canW; simp only [Bool.and_eq_true, decide_eq_true_eq, Bool.not_eq_true', decide_eq_false_iff_not, and_assoc]
theorem l_implWiden {m : Mine} {k : Int} (h : m.aw.length ≤ 4611686018427387904) : p_impl_Widen m k = some (wide m k) := by
  unfold p_impl_Widen wide canW
  rw [show (⟨m.p, m.aw⟩ : Mine) = m from rfl, l_implMineValid h]
  cases hv : mineOk m with
  | false => rfl
  | true =>
    have ok := mineOk_iff.1 hv
    have n7 := ok.n7
    simp only [Option.bind_some, Bool.not_true, cond_false, l_isIndex, Bool.true_and]
    by_cases hk : 0 ≤ k ∧ k < (m.aw.length : Int)
    · obtain ⟨j, rfl⟩ := Int.eq_ofNat_of_zero_le hk.1
      have hj : j < m.aw.length := by omega
      rw [decide_eq_true hk.1, decide_eq_true hk.2, idx_at hj, beq_dec]
      simp only [Bool.and_self, Bool.not_true, cond_false, Option.bind_some, Int.toNat_natCast, Bool.true_and]
      by_cases h6 : (gx m.aw j).w = 6
      · rw [decide_eq_true h6]; rfl
      · have w1 := (ok.aw j hj).w1; have w6 := (ok.aw j hj).w6
        rw [decide_eq_false h6, l_CloneA (by omega)]
        simp only [cond_false, Option.bind_some, Bool.not_false, if_true]
        rw [idx_at hj, w64_in (by omega) (by omega)]; rfl
    · have : (decide (0 ≤ k) && decide (k < (m.aw.length : Int))) = false := by rw [and_dec, decide_eq_false hk]
      rw [this]; rfl
theorem l_specWiden {m : Mine} {k : Int} (h : m.aw.length ≤ 4611686018427387904) : p_spec_Widen m k = some (wide m k) := by
  unfold p_spec_Widen wide canW
  rw [show (⟨m.p, m.aw⟩ : Mine) = m from rfl, l_specMineValid h]
  cases hv : mineOk m with
  | false => rfl
  | true =>
    have ok := mineOk_iff.1 hv
    have n7 := ok.n7
    have e : (decide (0 ≤ k) && decide (k ≤ w64 ((m.aw.length : Int) - 1))) = (decide (0 ≤ k) && decide (k < (m.aw.length : Int))) := by
      rw [w64_in (by omega) (by omega)]; congr 1; rw [decide_eq_decide]; omega
    simp only [Option.bind_some, Bool.not_true, cond_false, l_l1In, e, Bool.true_and, List.nil_append]
    by_cases hk : 0 ≤ k ∧ k < (m.aw.length : Int)
    · obtain ⟨j, rfl⟩ := Int.eq_ofNat_of_zero_le hk.1
      have hj : j < m.aw.length := by omega
      rw [decide_eq_true hk.1, decide_eq_true hk.2, idx_at hj, beq_dec]
      simp only [Bool.and_self, Bool.not_true, cond_false, Option.bind_some, Int.toNat_natCast, Bool.true_and]
      by_cases h6 : (gx m.aw j).w = 6
      · rw [decide_eq_true h6]; rfl
      · have w1 := (ok.aw j hj).w1; have w6 := (ok.aw j hj).w6
        rw [decide_eq_false h6, need_of (by simp; omega)]
        simp only [cond_false, Bool.not_false, if_true]
        rw [idx_at hj, w64_in (by omega) (by omega)]; rfl
    · have : (decide (0 ≤ k) && decide (k < (m.aw.length : Int))) = false := by rw [and_dec, decide_eq_false hk]
      rw [this]; rfl
theorem wid_gx {m : Mine} {k : Nat} {j : Nat} (hj : j < m.aw.length) (hk : k < m.aw.length) : gx (wid m k).aw j = if k = j then wideA (gx m.aw k) else gx m.aw j := by
  unfold wid; simp only [Int.toNat_natCast]; rw [gx_set hk]
theorem wid_ok {m : Mine} {k : Int} (h : canW m k = true) : MineOk (wid m k) := by
  obtain ⟨h1, h2, h3, h4⟩ := canW_iff.1 h
  have ok := mineOk_iff.1 h1
  obtain ⟨j, rfl⟩ := Int.eq_ofNat_of_zero_le h2
  have hj : j < m.aw.length := by omega
  rw [Int.toNat_natCast] at h4
  refine ⟨ok.p1, ok.p5, by unfold wid; simp only [List.length_set]; exact ok.n7, fun i hi => ?_⟩
  have hi' : i < m.aw.length := by unfold wid at hi; simpa using hi
  rw [wid_gx hi' hj]
  split
  · have a := ok.aw j hj
    have w1 := a.w1; have w6 := a.w6
    exact ⟨a.f0, a.f1, a.t0, a.t1, a.ne, by simp only [wideA]; omega, by simp only [wideA]; omega⟩
  · exact ok.aw i hi'
end Go.Proofs.YtkedammjdldloaaDoor
