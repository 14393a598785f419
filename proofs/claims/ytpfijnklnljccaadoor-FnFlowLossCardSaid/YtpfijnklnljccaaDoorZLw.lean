/- Determinants: both programs compute the same; no condition but the sizes. -/
import Derived.Test.YtpfijnklnljccaaDoorZLc
import Derived.Test.YtpfijnklnljccaaDoorZLa
import Derived.Test.YtpfijnklnljccaaDoorZNa
import Derived.Test.YtpfijnklnljccaaDoorZQ
namespace Go.Proofs.YtpfijnklnljccaaDoor
open Go
set_option linter.unusedVariables false
set_option linter.unusedSimpArgs false

def bd : Nat → Nat
  | 0 => 1
  | n + 1 => (n + 1) * (999 * bd n)
end Go.Proofs.YtpfijnklnljccaaDoor
