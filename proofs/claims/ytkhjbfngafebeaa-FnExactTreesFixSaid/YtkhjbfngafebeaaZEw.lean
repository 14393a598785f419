/- What the laws' own functions compute on lists of Way; no condition but the sizes. -/
import Derived.Test.YtkhjbfngafebeaaZLa
import Derived.Test.YtkhjbfngafebeaaZQ
namespace Go.Proofs.Ytkhjbfngafebeaa
open Go
set_option linter.unusedVariables false
set_option linter.unusedSimpArgs false

theorem l_eqWay {a b : Way} : p_laws_eqWay a b = some (decide (a = b)) := by
  obtain ⟨x0, x1, x2⟩ := a
  obtain ⟨y0, y1, y2⟩ := b
  simp only [p_laws_eqWay, bne_dec, Way.mk.injEq]
  by_cases h0 : x0 = y0 <;> by_cases h1 : x1 = y1 <;> by_cases h2 : x2 = y2 <;> simp [h0, h1, h2]
theorem l_eqWayS {a b : List Way} (h : a.length ≤ 4611686018427387904) : p_laws_eqWayS a b = some (decide (a = b)) := by
  unfold p_laws_eqWayS
  by_cases e : a.length = b.length
  · rw [loop_all (fun k => decide (gx a k = gx b k)) a.length false (fun k hk => by
      simp only [p_laws_eqWayS_L0, l_eqWay]
      rw [decide_eq_true (by omega), idx_at hk, idx_at (by omega), w64_succ (by omega)]
      cases decide (gx a k = gx b k) <;> rfl) (by simp only [p_laws_eqWayS_L0]; rw [decide_eq_false (by omega)]; rfl), all_eq e, e]
    simp only [bne_self_eq_false, cond_false]
    cases decide (a = b) <;> rfl
  · rw [decide_eq_false (fun h => e (by rw [h]))]
    have : (((a.length : Nat) : Int) != ((b.length : Nat) : Int)) = true := by simp; omega
    rw [this]; rfl
def mkWay (n : Nat) (k : Int) : List Way := (List.range n).map fun i : Nat => ⟨k + 3 * (i : Int), k + 3 * (i : Int) + 1, k + 3 * (i : Int) + 2⟩
theorem mkWay_len {n : Nat} {k : Int} : (mkWay n k).length = n := by simp [mkWay]
theorem mkWay_gx {n : Nat} {k : Int} {i : Nat} (h : i < n) : gx (mkWay n k) i = ⟨k + 3 * (i : Int), k + 3 * (i : Int) + 1, k + 3 * (i : Int) + 2⟩ := by
  unfold mkWay
  rw [gx_of_map (f := fun i : Nat => (⟨k + 3 * (i : Int), k + 3 * (i : Int) + 1, k + 3 * (i : Int) + 2⟩ : Way)) (by simpa using h)]
  have : gx (List.range n) i = i := by rw [gx_eq (by simpa using h)]; simp
  rw [this]
theorem l_markWayS {a : List Way} {k0 : Int} (h : a.length ≤ 1048576) (h0 : 0 ≤ k0) (h1 : k0 ≤ 1152921504606846976) : p_laws_markWayS a k0 = some (k0 + 3 * (a.length : Int), mkWay a.length k0) := by
  unfold p_laws_markWayS
  have := loop_stop (B := p_laws_markWayS_L0 a) (fun k => (k0 + 3 * (k : Int), (k : Int), mixG (mkWay a.length k0) a k)) a.length (e := (k0 + 3 * (a.length : Int), mkWay a.length k0)) (fun k hk => by
    simp only [p_laws_markWayS_L0]
    have hl : (mixG (mkWay a.length k0) a k).length = a.length := mixG_len mkWay_len
    rw [decide_eq_true (by omega), idx_at hk, w64_succ (by omega), w64_in (x := k0 + 3 * (k : Int) + 1) (by omega) (by omega), w64_in (x := k0 + 3 * (k : Int) + 1 + 1) (by omega) (by omega), w64_in (x := k0 + 3 * (k : Int) + 1 + 1 + 1) (by omega) (by omega), ← mixG_set mkWay_len hk, mkWay_gx hk]
    simp only [cond_true, List.set_set]
    rw [gx_set_self (by omega), gx_set_self (by omega)]
    have e0 : k0 + 3 * (k : Int) + 1 + 1 + 1 = k0 + 3 * ((k + 1 : Nat) : Int) := by omega
    have e1 : k0 + 3 * (k : Int) + 1 + 1 = k0 + 3 * (k : Int) + 2 := by omega
    rw [e0, e1]) (by
    simp only [p_laws_markWayS_L0]
    rw [decide_eq_false (by omega), mixG_end mkWay_len]; rfl)
  rw [mixG_zero] at this
  rw [show (k0, (0 : Int), a) = (k0 + 3 * ((0 : Nat) : Int), ((0 : Nat) : Int), a) by simp, this]; rfl

theorem l_heldWayS {n : Nat} {k0 : Int} (h : n ≤ 1048576) (h0 : 0 ≤ k0) (h1 : k0 ≤ 1152921504606846976) : p_laws_heldWayS (mkWay n k0) k0 = some (k0 + 3 * (n : Int)) := by
  unfold p_laws_heldWayS
  have := loop_stop (B := p_laws_heldWayS_L0 (mkWay n k0)) (fun k => (k0 + 3 * (k : Int), (k : Int))) n (e := .inl (k0 + 3 * (n : Int))) (fun k hk => by
    simp only [p_laws_heldWayS_L0, mkWay_len]
    have e0 : k0 + 3 * (k : Int) + 1 + 1 + 1 = k0 + 3 * ((k + 1 : Nat) : Int) := by omega
    have e1 : k0 + 3 * (k : Int) + 1 + 1 = k0 + 3 * (k : Int) + 2 := by omega
    rw [decide_eq_true (by omega), idx_at hk, w64_succ (by omega), w64_in (x := k0 + 3 * (k : Int) + 1) (by omega) (by omega), w64_in (x := k0 + 3 * (k : Int) + 1 + 1) (by omega) (by omega), w64_in (x := k0 + 3 * (k : Int) + 1 + 1 + 1) (by omega) (by omega), mkWay_gx hk, e0, e1]
    simp only [cond_true, bne_self_eq_false, cond_false]) (by
    simp only [p_laws_heldWayS_L0, mkWay_len]
    rw [decide_eq_false (by omega)]; rfl)
  rw [show (k0, (0 : Int)) = (k0 + 3 * ((0 : Nat) : Int), ((0 : Nat) : Int)) by simp, this]; rfl
theorem l_eqFix {a b : Fix} (h : a.nums.length ≤ 4611686018427387904) : p_laws_eqFix a b = some (decide (a = b)) := by
  obtain ⟨p, l⟩ := a
  obtain ⟨p', l'⟩ := b
  simp only [p_laws_eqFix, bne_dec, Fix.mk.injEq, l_eqWayS h, Option.bind_some]
  by_cases h1 : p = p' <;> by_cases h2 : l = l' <;> simp [h1, h2]
theorem l_markFix {a : Fix} {k0 : Int} (h : a.nums.length ≤ 1048576) (h0 : 0 ≤ k0) (h1 : k0 ≤ 1152921504606846976) : p_laws_markFix a k0 = some (k0 + 3 * (a.nums.length : Int), mkWay a.nums.length k0) := by
  unfold p_laws_markFix; rw [l_markWayS h h0 h1]; rfl
theorem l_heldFix {n : Nat} {k0 d : Int} (h : n ≤ 1048576) (h0 : 0 ≤ k0) (h1 : k0 ≤ 1152921504606846976) : p_laws_heldFix ⟨d, mkWay n k0⟩ k0 = some (k0 + 3 * (n : Int)) := by
  unfold p_laws_heldFix; rw [l_heldWayS h h0 h1]; simp only [Option.bind_some]; rw [decide_eq_false (by omega)]; rfl
end Go.Proofs.Ytkhjbfngafebeaa
