/- Determinants: both programs compute the same; no condition but the sizes. -/
import Derived.Test.YtnibfmofkamjoaaDoorZLc
import Derived.Test.YtnibfmofkamjoaaDoorZLa
import Derived.Test.YtnibfmofkamjoaaDoorZNa
import Derived.Test.YtnibfmofkamjoaaDoorZQ
namespace Go.Proofs.YtnibfmofkamjoaaDoor
open Go
set_option linter.unusedVariables false
set_option linter.unusedSimpArgs false

def bd : Nat → Nat
  | 0 => 1
  | n + 1 => (n + 1) * (999 * bd n)
end Go.Proofs.YtnibfmofkamjoaaDoor
