/- Lists held against each other, as the laws do; no condition but the sizes. -/
import Derived.Test.YtnibfmofkamjoaaDoorZLa
import Derived.Test.YtnibfmofkamjoaaDoorZQ
namespace Go.Proofs.YtnibfmofkamjoaaDoor
open Go
set_option linter.unusedVariables false
set_option linter.unusedSimpArgs false

theorem l_sameInts {a b : List Int} (h : a.length ≤ 4611686018427387904) : p_laws_sameInts a b = some (decide (a = b)) := by
  unfold p_laws_sameInts
  by_cases e : a.length = b.length
  · rw [loop_all (fun k => decide (gx a k = gx b k)) a.length false (fun k hk => by
      simp only [p_laws_sameInts_L0]
      rw [decide_eq_true (by omega), idx_at hk, idx_at (by omega), w64_succ (by omega), bne_dec]
      cases decide (gx a k = gx b k) <;> rfl) (by simp only [p_laws_sameInts_L0]; rw [decide_eq_false (by omega)]; rfl), all_eq e, e]
    simp only [bne_self_eq_false, cond_false]
    cases decide (a = b) <;> rfl
  · rw [decide_eq_false (fun h => e (by rw [h]))]
    have : (((a.length : Nat) : Int) != ((b.length : Nat) : Int)) = true := by simp; omega
    rw [this]; rfl
theorem l_sameLists {a b : List (List Int)} (h : a.length ≤ 4611686018427387904) (hr : ∀ k, k < a.length → (gx a k).length ≤ 4611686018427387904) : p_laws_sameLists a b = some (decide (a = b)) := by
  unfold p_laws_sameLists
  by_cases e : a.length = b.length
  · rw [loop_all (fun k => decide (gx a k = gx b k)) a.length false (fun k hk => by
      simp only [p_laws_sameLists_L0]
      rw [decide_eq_true (by omega), idx_at hk, idx_at (by omega), w64_succ (by omega), l_sameInts (hr k hk)]
      simp only [Option.bind_some, cond_true]
      cases decide (gx a k = gx b k) <;> rfl) (by simp only [p_laws_sameLists_L0]; rw [decide_eq_false (by omega)]; rfl), all_eq e, e]
    simp only [bne_self_eq_false, cond_false]
    cases decide (a = b) <;> rfl
  · rw [decide_eq_false (fun h => e (by rw [h]))]
    have : (((a.length : Nat) : Int) != ((b.length : Nat) : Int)) = true := by simp; omega
    rw [this]; rfl
end Go.Proofs.YtnibfmofkamjoaaDoor
