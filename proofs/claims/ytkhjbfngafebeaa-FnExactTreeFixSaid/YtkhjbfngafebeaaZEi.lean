/- What the laws' own functions compute on lists of numbers; no condition but the sizes. -/
import Derived.Test.YtkhjbfngafebeaaZLa
import Derived.Test.YtkhjbfngafebeaaZQ
namespace Go.Proofs.Ytkhjbfngafebeaa
open Go
set_option linter.unusedVariables false
set_option linter.unusedSimpArgs false

theorem l_toIntS {a : List Int} (h : a.length ≤ 1048576) : p_laws_toIntS a = some a := by
  unfold p_laws_toIntS
  rw [sized_at (by omega)]
  have := loop_stop (B := p_laws_toIntS_L0 a a.length) (fun k => ((k : Int), fillG a 0 k)) a.length (e := a) (fun k hk => by
    simp only [p_laws_toIntS_L0]
    rw [decide_eq_true (by omega), idx_at hk, idx_at hk, w64_succ (by omega), fillG_set hk]; rfl) (by
    simp only [p_laws_toIntS_L0]
    rw [decide_eq_false (by omega), fillG_end]; rfl)
  rw [← fillG_zero] at this
  rw [show ((0 : Int), List.replicate a.length (0 : Int)) = (((0 : Nat) : Int), List.replicate a.length (0 : Int)) from rfl, this]; rfl
theorem l_eqIntS {a b : List Int} (h : a.length ≤ 4611686018427387904) : p_laws_eqIntS a b = some (decide (a = b)) := by
  unfold p_laws_eqIntS
  by_cases e : a.length = b.length
  · rw [loop_all (fun k => decide (gx a k = gx b k)) a.length false (fun k hk => by
      simp only [p_laws_eqIntS_L0]
      rw [decide_eq_true (by omega), idx_at hk, idx_at (by omega), w64_succ (by omega), bne_dec]
      cases decide (gx a k = gx b k) <;> rfl) (by simp only [p_laws_eqIntS_L0]; rw [decide_eq_false (by omega)]; rfl), all_eq e, e]
    simp only [bne_self_eq_false, cond_false]
    cases decide (a = b) <;> rfl
  · rw [decide_eq_false (fun h => e (by rw [h]))]
    have : (((a.length : Nat) : Int) != ((b.length : Nat) : Int)) = true := by simp; omega
    rw [this]; rfl
def markI (n : Nat) (k : Int) : List Int := (List.range n).map fun i : Nat => k + (i : Int)
theorem markI_len {n : Nat} {k : Int} : (markI n k).length = n := by simp [markI]
theorem markI_gx {n : Nat} {k : Int} {i : Nat} (h : i < n) : gx (markI n k) i = k + (i : Int) := by
  unfold markI
  rw [gx_of_map (f := fun i : Nat => k + (i : Int)) (by simpa using h)]
  have : gx (List.range n) i = i := by rw [gx_eq (by simpa using h)]; simp
  rw [this]
theorem l_markIntS {a : List Int} {k0 : Int} (h : a.length ≤ 1099511627776) (h0 : 0 ≤ k0) (h1 : k0 ≤ 1152921504606846976) : p_laws_markIntS a k0 = some (k0 + (a.length : Int), markI a.length k0) := by
  unfold p_laws_markIntS
  have := loop_stop (B := p_laws_markIntS_L0 a) (fun k => (k0 + (k : Int), (k : Int), mixG (markI a.length k0) a k)) a.length (e := (k0 + (a.length : Int), markI a.length k0)) (fun k hk => by
    simp only [p_laws_markIntS_L0]
    have e1 : k0 + (k : Int) + 1 = k0 + ((k + 1 : Nat) : Int) := by omega
    rw [decide_eq_true (by omega), idx_at hk, w64_succ (by omega), w64_in (x := k0 + (k : Int) + 1) (by omega) (by omega), ← mixG_set markI_len hk, markI_gx hk, e1]
    rfl) (by
    simp only [p_laws_markIntS_L0]
    rw [decide_eq_false (by omega), mixG_end markI_len]; rfl)
  rw [mixG_zero] at this
  rw [show (k0, (0 : Int), a) = (k0 + ((0 : Nat) : Int), ((0 : Nat) : Int), a) by simp, this]; rfl
end Go.Proofs.Ytkhjbfngafebeaa
