/- Determinants: both programs compute the same; no condition but the sizes. -/
import Derived.Test.YtkhjbfngafebeaaZLc
import Derived.Test.YtkhjbfngafebeaaZLa
import Derived.Test.YtkhjbfngafebeaaZNa
import Derived.Test.YtkhjbfngafebeaaZQ
namespace Go.Proofs.Ytkhjbfngafebeaa
open Go
set_option linter.unusedVariables false
set_option linter.unusedSimpArgs false

def bd : Nat → Nat
  | 0 => 1
  | n + 1 => (n + 1) * (999 * bd n)
end Go.Proofs.Ytkhjbfngafebeaa
