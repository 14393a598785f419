/- What is missed at a station, around a loop, and where a survey closes; no condition but the sizes. -/
import Derived.Test.YtnibfmofkamjoaaDoorZL8
import Derived.Test.YtnibfmofkamjoaaDoorZL5
namespace Go.Proofs.YtnibfmofkamjoaaDoor
open Go
set_option linter.unusedVariables false
set_option linter.unusedSimpArgs false

/-- By how much a leg misses its end. -/
def mcl (s : Survey) (c : Leg → Int) (k : Nat) : Int := plc s c (gx s.legs k).f.toNat + c (gx s.legs k) - plc s c (gx s.legs k).t.toNat
theorem leg_part {s : Survey} {k : Nat} (hk : k < s.legs.length) : sP s (gx s.legs k).f.toNat = sP s (gx s.legs k).t.toNat :=
  fj_eq (e := eL c0 (gx s.legs k)) (List.mem_map.2 ⟨_, gx_mem hk, rfl⟩)
theorem mcl_yc {s : Survey} {c : Leg → Int} {k : Nat} (hk : k < s.legs.length) : mcl s c k = c (gx s.legs k) + yc s c (gx s.legs k).f.toNat - yc s c (gx s.legs k).t.toNat := by
  unfold mcl plc
  rw [leg_part hk]; omega
end Go.Proofs.YtnibfmofkamjoaaDoor
