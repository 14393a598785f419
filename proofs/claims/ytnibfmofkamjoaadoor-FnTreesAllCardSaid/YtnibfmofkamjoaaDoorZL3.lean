/- Links, trees counted, surveys adjusted, fixes valid and drawn; no condition but the sizes. -/
import Derived.Test.YtnibfmofkamjoaaDoorZLk
import Derived.Test.YtnibfmofkamjoaaDoorZLq
import Derived.Test.YtnibfmofkamjoaaDoorZLc
import Derived.Test.YtnibfmofkamjoaaDoorZLw
import Derived.Test.YtnibfmofkamjoaaDoorZQ
import Derived.Test.YtnibfmofkamjoaaDoorZLp
import Derived.Test.YtnibfmofkamjoaaDoorZL2
namespace Go.Proofs.YtnibfmofkamjoaaDoor
open Go
set_option linter.unusedVariables false
set_option linter.unusedSimpArgs false

/-- How many trees a survey has. -/
def tm (s : Survey) : Int := if surveyOk s then D (mS s) (lE s) else -1
theorem lE_w {s : Survey} : ∀ e ∈ lE s, 0 < e.w := fun e he => by
  unfold lE at he
  obtain ⟨g, _, rfl⟩ := List.mem_map.1 he
  exact (by decide : (0 : Int) < 1)
theorem lE_w1 {s : Survey} : ∀ e ∈ lE s, e.w = 1 := fun e he => by
  unfold lE at he
  obtain ⟨g, _, rfl⟩ := List.mem_map.1 he
  rfl
theorem filter_count {p : Nat → Bool} {n : Nat} : (((List.range n).filter p).length : Int) = sm n fun t => if p t then 1 else 0 := by
  induction n with
  | zero => rfl
  | succ n ih =>
    rw [List.range_succ, List.filter_append, List.length_append]
    show _ = sm n (fun t => if p t then 1 else 0) + (if p n then 1 else 0)
    rw [← ih]
    cases h : p n <;> simp [h]
theorem tm_sets {s : Survey} (ok : SurveyOk s) : tm s = sm (2 ^ s.legs.length) fun t => if tset s t then 1 else 0 := by
  unfold tm
  rw [if_pos (surveyOk_iff.2 ok), D_ts (sv_in ok), ts_sets, lE_len]
  refine sm_congr fun t _ => ?_
  rw [wT_one lE_w1]; rfl
/-- There are as many trees as are listed. -/
theorem tm_len {s : Survey} (ok : SurveyOk s) : tm s = ((TA s).length : Int) := by
  rw [tm_sets ok]
  unfold TA
  rw [if_pos (surveyOk_iff.2 ok), List.length_map]
  unfold tsets
  rw [filter_count]
theorem l_implPartsMany {s : Survey} (h : s.legs.length ≤ 4611686018427387904) : p_impl_PartsMany s = some (pm s) := by
  unfold p_impl_PartsMany pm
  rw [show (⟨s.st, s.legs⟩ : Survey) = s from rfl, l_implSurveyValid h]
  cases hv : surveyOk s with
  | false => rfl
  | true =>
    have ok := surveyOk_iff.1 hv
    have p6 := ok.p6
    simp only [Option.bind_some, Bool.not_true, cond_false, if_true]
    rw [l_implParts h, if_pos hv]
    simp only [Option.bind_some]
    rw [l_countParts (by omega)]; rfl

end Go.Proofs.YtnibfmofkamjoaaDoor
