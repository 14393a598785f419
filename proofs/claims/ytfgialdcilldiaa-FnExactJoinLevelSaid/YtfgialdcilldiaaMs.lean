/- What the laws' own functions compute on lists of Sill; no condition but the sizes. -/
import Derived.Test.YtfgialdcilldiaaLa
import Derived.Test.YtfgialdcilldiaaQs
namespace Go.Proofs.Ytfgialdcilldiaa
open Go
set_option linter.unusedVariables false
set_option linter.unusedSimpArgs false

theorem l_toSillS {a : List Sill} (h : a.length ≤ 1048576) : p_laws_toSillS a = some a := by
  unfold p_laws_toSillS
  rw [sized_at (by omega)]
  have := loop_stop (B := p_laws_toSillS_L0 a a.length) (fun k => ((k : Int), fillG a ⟨0, 0, 0⟩ k)) a.length (e := a) (fun k hk => by
    simp only [p_laws_toSillS_L0, p_laws_toSill]
    rw [decide_eq_true (by omega), idx_at hk]
    simp only [Option.bind_some]
    rw [idx_at hk, w64_succ (by omega), fillG_set hk]; rfl) (by
    simp only [p_laws_toSillS_L0]
    rw [decide_eq_false (by omega), fillG_end]; rfl)
  rw [← fillG_zero] at this
  rw [show ((0 : Int), List.replicate a.length (⟨0, 0, 0⟩ : Sill)) = (((0 : Nat) : Int), List.replicate a.length (⟨0, 0, 0⟩ : Sill)) from rfl, this]; rfl
theorem l_eqSill {a b : Sill} : p_laws_eqSill a b = some (decide (a = b)) := by
  obtain ⟨x0, x1, x2⟩ := a
  obtain ⟨y0, y1, y2⟩ := b
  simp only [p_laws_eqSill, bne_dec, Sill.mk.injEq]
  by_cases h0 : x0 = y0 <;> by_cases h1 : x1 = y1 <;> by_cases h2 : x2 = y2 <;> simp [h0, h1, h2]
theorem l_eqSillS {a b : List Sill} (h : a.length ≤ 4611686018427387904) : p_laws_eqSillS a b = some (decide (a = b)) := by
  unfold p_laws_eqSillS
  by_cases e : a.length = b.length
  · rw [loop_all (fun k => decide (gx a k = gx b k)) a.length false (fun k hk => by
      simp only [p_laws_eqSillS_L0, l_eqSill]
      rw [decide_eq_true (by omega), idx_at hk, idx_at (by omega), w64_succ (by omega)]
      cases decide (gx a k = gx b k) <;> rfl) (by simp only [p_laws_eqSillS_L0]; rw [decide_eq_false (by omega)]; rfl), all_eq e, e]
    simp only [bne_self_eq_false, cond_false]
    cases decide (a = b) <;> rfl
  · rw [decide_eq_false (fun h => e (by rw [h]))]
    have : (((a.length : Nat) : Int) != ((b.length : Nat) : Int)) = true := by simp; omega
    rw [this]; rfl
theorem l_szSillS {a : List Sill} {l : Int} (h : a.length ≤ 9223372036854775807) (h0 : 0 ≤ l) (h1 : l ≤ 4611686018427387904) : p_laws_szSillS a l = some (if l < a.length then -1 else l - a.length) := by
  unfold p_laws_szSillS
  rw [w64_in (by omega) (by omega)]
  split
  · rw [decide_eq_true (by omega)]; rfl
  · rw [decide_eq_false (by omega)]; rfl

/-! ### Marks -/
def mkSill (n : Nat) (k : Int) : List Sill := (List.range n).map fun i : Nat => ⟨k + 3 * (i : Int), k + 3 * (i : Int) + 1, k + 3 * (i : Int) + 2⟩
theorem mkSill_len {n : Nat} {k : Int} : (mkSill n k).length = n := by simp [mkSill]
theorem mkSill_gx {n : Nat} {k : Int} {i : Nat} (h : i < n) : gx (mkSill n k) i = ⟨k + 3 * (i : Int), k + 3 * (i : Int) + 1, k + 3 * (i : Int) + 2⟩ := by
  unfold mkSill
  rw [gx_of_map (f := fun i : Nat => (⟨k + 3 * (i : Int), k + 3 * (i : Int) + 1, k + 3 * (i : Int) + 2⟩ : Sill)) (by simpa using h)]
  have : gx (List.range n) i = i := by rw [gx_eq (by simpa using h)]; simp
  rw [this]
theorem l_markSillS {a : List Sill} {k0 : Int} (h : a.length ≤ 1048576) (h0 : 0 ≤ k0) (h1 : k0 ≤ 1152921504606846976) : p_laws_markSillS a k0 = some (k0 + 3 * (a.length : Int), mkSill a.length k0) := by
  unfold p_laws_markSillS
  have := loop_stop (B := p_laws_markSillS_L0 a) (fun k => (k0 + 3 * (k : Int), (k : Int), mixG (mkSill a.length k0) a k)) a.length (e := (k0 + 3 * (a.length : Int), mkSill a.length k0)) (fun k hk => by
    simp only [p_laws_markSillS_L0]
    have hl : (mixG (mkSill a.length k0) a k).length = a.length := mixG_len mkSill_len
    rw [decide_eq_true (by omega), idx_at hk, w64_succ (by omega), w64_in (x := k0 + 3 * (k : Int) + 1) (by omega) (by omega), w64_in (x := k0 + 3 * (k : Int) + 1 + 1) (by omega) (by omega), w64_in (x := k0 + 3 * (k : Int) + 1 + 1 + 1) (by omega) (by omega), ← mixG_set mkSill_len hk, mkSill_gx hk]
    simp only [cond_true, List.set_set]
    rw [gx_set_self (by omega), gx_set_self (by omega)]
    have e0 : k0 + 3 * (k : Int) + 1 + 1 + 1 = k0 + 3 * ((k + 1 : Nat) : Int) := by omega
    have e1 : k0 + 3 * (k : Int) + 1 + 1 = k0 + 3 * (k : Int) + 2 := by omega
    rw [e0, e1]) (by
    simp only [p_laws_markSillS_L0]
    rw [decide_eq_false (by omega), mixG_end mkSill_len]; rfl)
  rw [mixG_zero] at this
  rw [show (k0, (0 : Int), a) = (k0 + 3 * ((0 : Nat) : Int), ((0 : Nat) : Int), a) by simp, this]; rfl

end Go.Proofs.Ytfgialdcilldiaa
