/- All trees of a survey: both programs list the same; no condition but the sizes. -/
import Derived.Test.YtnibfmofkamjoaaDoorZLk
import Derived.Test.YtnibfmofkamjoaaDoorZQ
namespace Go.Proofs.YtnibfmofkamjoaaDoor
open Go
set_option linter.unusedVariables false
set_option linter.unusedSimpArgs false

def ixI (n s : Nat) : List Int := (ix n s).map fun k : Nat => (k : Int)
def lE (s : Survey) : List Ed := s.legs.map (eL c0)
theorem lE_len {s : Survey} : (lE s).length = s.legs.length := by simp [lE]
def mS (s : Survey) : Nat := s.st.toNat - 1
theorem sv_in {s : Survey} (ok : SurveyOk s) : Inm (mS s) (lE s) := fun e he => by
  obtain ⟨k, hk, rfl⟩ := mem_gx he
  rw [lE_len] at hk
  have a := ok.lg k hk
  have := a.f0; have := a.f1; have := a.t0; have := a.t1; have := ok.p1
  unfold lE; rw [gx_of_map hk]; unfold eL mS; simp only; omega
/-- A set of legs is a tree. -/
def tset (s : Survey) (t : Nat) : Bool := isT (mS s) pid (lE s) t
def tsets (s : Survey) : List Nat := (List.range (2 ^ s.legs.length)).filter (tset s)
/-- All trees. -/
def TA (s : Survey) : List (List Int) := if surveyOk s then (tsets s).map (ixI s.legs.length) else []
theorem filter_len {p : Nat → Bool} {x : Nat} : ((List.range x).filter p).length ≤ x := by
  have := List.length_filter_le p (List.range x); simpa using this
theorem two_pow {n : Nat} (h : n ≤ 9) : w64 (1 * 2 ^ (min (Int.toNat (n : Int)) IntKind.i64.bits)) = ((2 ^ n : Nat) : Int) ∧ 2 ^ n ≤ 512 := by
  have : ∀ n : Nat, n < 10 → w64 (1 * 2 ^ (min (Int.toNat (n : Int)) IntKind.i64.bits)) = ((2 ^ n : Nat) : Int) ∧ 2 ^ n ≤ 512 := by unfold w64; decide
  exact this n (by omega)
end Go.Proofs.YtnibfmofkamjoaaDoor
