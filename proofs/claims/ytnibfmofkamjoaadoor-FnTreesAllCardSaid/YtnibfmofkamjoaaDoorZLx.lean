/- Rows copied; rows of a matrix set; sums that wrap; no condition. -/
import Derived.Test.YtnibfmofkamjoaaDoorZLw
import Derived.Test.YtnibfmofkamjoaaDoorZQ
namespace Go.Proofs.YtnibfmofkamjoaaDoor
open Go
set_option linter.unusedVariables false
set_option linter.unusedSimpArgs false

theorem w64_mod (x : Int) : ∃ k : Int, w64 x = x - 18446744073709551616 * k ∧ -9223372036854775808 ≤ w64 x ∧ w64 x ≤ 9223372036854775807 := by
  have e : w64 x = if x % 18446744073709551616 ≥ 9223372036854775808 then x % 18446744073709551616 - 18446744073709551616 else x % 18446744073709551616 := by
    show (if (true && decide (x % 18446744073709551616 ≥ 9223372036854775808)) = true then x % 18446744073709551616 - 18446744073709551616 else x % 18446744073709551616) = _
    simp
  by_cases h : x % 18446744073709551616 ≥ 9223372036854775808
  · rw [if_pos h] at e; rw [e]; exact ⟨x / 18446744073709551616 + 1, by omega, by omega, by omega⟩
  · rw [if_neg h] at e; rw [e]; exact ⟨x / 18446744073709551616, by omega, by omega, by omega⟩
theorem w64_add2 (a b : Int) : w64 (w64 a + w64 b) = w64 (a + b) := by
  obtain ⟨k1, e1, l1, h1⟩ := w64_mod a
  obtain ⟨k2, e2, l2, h2⟩ := w64_mod b
  obtain ⟨k3, e3, l3, h3⟩ := w64_mod (a + b)
  obtain ⟨k4, e4, l4, h4⟩ := w64_mod (w64 a + w64 b)
  omega
end Go.Proofs.YtnibfmofkamjoaaDoor
