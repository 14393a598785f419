/- A sill from its numbers; no condition. -/
import Derived.Test.YtfgialdcilldiaaDa
namespace Go.Proofs.Ytfgialdcilldiaa
open Go
set_option linter.unusedVariables false
def decSill (l : List Int) : Sill := ⟨l.getD 0 0, l.getD 1 0, l.getD 2 0⟩
theorem decSill_ok (ns : List Int) (h : ns.length = 3) : encSill (decSill ns) = ns.map (fun n => .int .i64 n) := by
  match ns, h with
  | [a, b, c], _ => rfl
end Go.Proofs.Ytfgialdcilldiaa
