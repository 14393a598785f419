/- Rows copied; rows of a matrix set; sums that wrap; no condition. -/
import Derived.Test.YtnibfmofkamjoaaDoorLw
import Derived.Test.YtnibfmofkamjoaaDoorQbc
namespace Go.Proofs.YtnibfmofkamjoaaDoor
open Go
set_option linter.unusedVariables false
set_option linter.unusedSimpArgs false

theorem tab_small1 {n : Nat} {g : Nat → Nat → Int} (hn : n ≤ 1000) : (tab n g).length ≤ 4611686018427387904 ∧ ∀ k, k < (tab n g).length → (gx (tab n g) k).length ≤ 4611686018427387904 :=
  ⟨by rw [tab_len]; omega, fun k hk => by rw [tab_len] at hk; rw [tab_gx hk, row1_len]; omega⟩
theorem tab_ur {n r : Nat} {g : Nat → Nat → Int} {v : Nat → Int} : (tab n g).set r (row1 n v) = tab n (ur g r v) := by
  apply List.ext_getElem
  · simp [tab]
  · intro k h1 h2
    rw [List.getElem_set]
    simp only [tab, List.getElem_map, List.getElem_range]
    by_cases e : r = k
    · subst e; rw [if_pos rfl]; exact row1_ext fun i _ => by unfold ur; rw [if_pos rfl]
    · rw [if_neg e]; exact row1_ext fun i _ => by unfold ur; rw [if_neg (fun h => e h.symm)]
theorem l_copyRows {m : List (List Int)} (h : m.length ≤ 1000) (hr : ∀ k, k < m.length → (gx m k).length ≤ 1000) : p_laws_copyRows m = some m := by
  unfold p_laws_copyRows
  rw [loop_to (B := p_laws_copyRows_L0 m) (fun k => (m.take k, (k : Int))) m.length (by simp) (e := m) (fun k hk => by
    simp only [p_laws_copyRows_L0]
    have := hr k hk
    rw [decide_eq_true (by omega), idx_at hk, need_of (by simp; omega), need_of (by simp; omega), w64_succ (by omega), List.nil_append, take_gx hk]; rfl) (by
    simp only [p_laws_copyRows_L0]
    rw [decide_eq_false (by omega), List.take_of_length_le (by omega)]; rfl)]
  rfl
theorem w64_mod (x : Int) : ∃ k : Int, w64 x = x - 18446744073709551616 * k ∧ -9223372036854775808 ≤ w64 x ∧ w64 x ≤ 9223372036854775807 := by
  have e : w64 x = if x % 18446744073709551616 ≥ 9223372036854775808 then x % 18446744073709551616 - 18446744073709551616 else x % 18446744073709551616 := by
    show (if (true && decide (x % 18446744073709551616 ≥ 9223372036854775808)) = true then x % 18446744073709551616 - 18446744073709551616 else x % 18446744073709551616) = _
    simp
  by_cases h : x % 18446744073709551616 ≥ 9223372036854775808
  · rw [if_pos h] at e; rw [e]; exact ⟨x / 18446744073709551616 + 1, by omega, by omega, by omega⟩
  · rw [if_neg h] at e; rw [e]; exact ⟨x / 18446744073709551616, by omega, by omega, by omega⟩
theorem w64_add2 (a b : Int) : w64 (w64 a + w64 b) = w64 (a + b) := by
  obtain ⟨k1, e1, l1, h1⟩ := w64_mod a
  obtain ⟨k2, e2, l2, h2⟩ := w64_mod b
  obtain ⟨k3, e3, l3, h3⟩ := w64_mod (a + b)
  obtain ⟨k4, e4, l4, h4⟩ := w64_mod (w64 a + w64 b)
  omega
end Go.Proofs.YtnibfmofkamjoaaDoor
