/- What the laws' own functions compute on lists of Airway; no condition but the sizes. -/
import Derived.Test.YtkedammjdldloaaLa
import Derived.Test.YtkedammjdldloaaQea
namespace Go.Proofs.Ytkedammjdldloaa
open Go
set_option linter.unusedVariables false
set_option linter.unusedSimpArgs false

theorem l_toAirwayS {a : List Airway} (h : a.length ≤ 1048576) : p_laws_toAirwayS a = some a := by
  unfold p_laws_toAirwayS
  rw [sized_at (by omega)]
  have := loop_stop (B := p_laws_toAirwayS_L0 a a.length) (fun k => ((k : Int), fillG a ⟨0, 0, 0⟩ k)) a.length (e := a) (fun k hk => by
    simp only [p_laws_toAirwayS_L0, p_laws_toAirway]
    rw [decide_eq_true (by omega), idx_at hk]
    simp only [Option.bind_some]
    rw [idx_at hk, w64_succ (by omega), fillG_set hk]; rfl) (by
    simp only [p_laws_toAirwayS_L0]
    rw [decide_eq_false (by omega), fillG_end]; rfl)
  rw [← fillG_zero] at this
  rw [show ((0 : Int), List.replicate a.length (⟨0, 0, 0⟩ : Airway)) = (((0 : Nat) : Int), List.replicate a.length (⟨0, 0, 0⟩ : Airway)) from rfl, this]; rfl
theorem l_eqAirway {a b : Airway} : p_laws_eqAirway a b = some (decide (a = b)) := by
  obtain ⟨x0, x1, x2⟩ := a
  obtain ⟨y0, y1, y2⟩ := b
  simp only [p_laws_eqAirway, bne_dec, Airway.mk.injEq]
  by_cases h0 : x0 = y0 <;> by_cases h1 : x1 = y1 <;> by_cases h2 : x2 = y2 <;> simp [h0, h1, h2]
theorem l_eqAirwayS {a b : List Airway} (h : a.length ≤ 4611686018427387904) : p_laws_eqAirwayS a b = some (decide (a = b)) := by
  unfold p_laws_eqAirwayS
  by_cases e : a.length = b.length
  · rw [loop_all (fun k => decide (gx a k = gx b k)) a.length false (fun k hk => by
      simp only [p_laws_eqAirwayS_L0, l_eqAirway]
      rw [decide_eq_true (by omega), idx_at hk, idx_at (by omega), w64_succ (by omega)]
      cases decide (gx a k = gx b k) <;> rfl) (by simp only [p_laws_eqAirwayS_L0]; rw [decide_eq_false (by omega)]; rfl), all_eq e, e]
    simp only [bne_self_eq_false, cond_false]
    cases decide (a = b) <;> rfl
  · rw [decide_eq_false (fun h => e (by rw [h]))]
    have : (((a.length : Nat) : Int) != ((b.length : Nat) : Int)) = true := by simp; omega
    rw [this]; rfl
theorem l_szAirwayS {a : List Airway} {l : Int} (h : a.length ≤ 9223372036854775807) (h0 : 0 ≤ l) (h1 : l ≤ 4611686018427387904) : p_laws_szAirwayS a l = some (if l < a.length then -1 else l - a.length) := by
  unfold p_laws_szAirwayS
  rw [w64_in (by omega) (by omega)]
  split
  · rw [decide_eq_true (by omega)]; rfl
  · rw [decide_eq_false (by omega)]; rfl

/-! ### Marks -/
def mkAirway (n : Nat) (k : Int) : List Airway := (List.range n).map fun i : Nat => ⟨k + 3 * (i : Int), k + 3 * (i : Int) + 1, k + 3 * (i : Int) + 2⟩
theorem mkAirway_len {n : Nat} {k : Int} : (mkAirway n k).length = n := by simp [mkAirway]
theorem mkAirway_gx {n : Nat} {k : Int} {i : Nat} (h : i < n) : gx (mkAirway n k) i = ⟨k + 3 * (i : Int), k + 3 * (i : Int) + 1, k + 3 * (i : Int) + 2⟩ := by
  unfold mkAirway
  rw [gx_of_map (f := fun i : Nat => (⟨k + 3 * (i : Int), k + 3 * (i : Int) + 1, k + 3 * (i : Int) + 2⟩ : Airway)) (by simpa using h)]
  have : gx (List.range n) i = i := by rw [gx_eq (by simpa using h)]; simp
  rw [this]
theorem l_markAirwayS {a : List Airway} {k0 : Int} (h : a.length ≤ 1048576) (h0 : 0 ≤ k0) (h1 : k0 ≤ 1152921504606846976) : p_laws_markAirwayS a k0 = some (k0 + 3 * (a.length : Int), mkAirway a.length k0) := by
  unfold p_laws_markAirwayS
  have := loop_stop (B := p_laws_markAirwayS_L0 a) (fun k => (k0 + 3 * (k : Int), (k : Int), mixG (mkAirway a.length k0) a k)) a.length (e := (k0 + 3 * (a.length : Int), mkAirway a.length k0)) (fun k hk => by
    simp only [p_laws_markAirwayS_L0]
    have hl : (mixG (mkAirway a.length k0) a k).length = a.length := mixG_len mkAirway_len
    rw [decide_eq_true (by omega), idx_at hk, w64_succ (by omega), w64_in (x := k0 + 3 * (k : Int) + 1) (by omega) (by omega), w64_in (x := k0 + 3 * (k : Int) + 1 + 1) (by omega) (by omega), w64_in (x := k0 + 3 * (k : Int) + 1 + 1 + 1) (by omega) (by omega), ← mixG_set mkAirway_len hk, mkAirway_gx hk]
    simp only [cond_true, List.set_set]
    rw [gx_set_self (by omega), gx_set_self (by omega)]
    have e0 : k0 + 3 * (k : Int) + 1 + 1 + 1 = k0 + 3 * ((k + 1 : Nat) : Int) := by omega
    have e1 : k0 + 3 * (k : Int) + 1 + 1 = k0 + 3 * (k : Int) + 2 := by omega
    rw [e0, e1]) (by
    simp only [p_laws_markAirwayS_L0]
    rw [decide_eq_false (by omega), mixG_end mkAirway_len]; rfl)
  rw [mixG_zero] at this
  rw [show (k0, (0 : Int), a) = (k0 + 3 * ((0 : Nat) : Int), ((0 : Nat) : Int), a) by simp, this]; rfl
theorem l_toMine {a : Mine} (h : a.aw.length ≤ 1048576) : p_laws_toMine a = some a := by
  unfold p_laws_toMine; rw [l_toAirwayS h]; rfl
theorem l_eqMine {a b : Mine} (h : a.aw.length ≤ 4611686018427387904) : p_laws_eqMine a b = some (decide (a = b)) := by
  obtain ⟨p, l⟩ := a
  obtain ⟨p', l'⟩ := b
  simp only [p_laws_eqMine, bne_dec, Mine.mk.injEq, l_eqAirwayS h, Option.bind_some]
  by_cases h1 : p = p' <;> by_cases h2 : l = l' <;> simp [h1, h2]
theorem l_szMine {a : Mine} (h : a.aw.length ≤ 9223372036854775807) : ∃ x, p_laws_szMine a 1048576 = some x ∧ (x < 0 ∨ a.aw.length ≤ 1048576) := by
  simp only [p_laws_szMine, p_laws_szAirwayS]
  rw [w64_in (by omega) (by omega)]
  by_cases h1 : 1048576 - (a.aw.length : Int) < 0
  · rw [decide_eq_true h1]; exact ⟨_, rfl, .inl (by decide)⟩
  · rw [decide_eq_false h1]
    refine ⟨1048576 - (a.aw.length : Int), ?_, .inr (by omega)⟩
    simp only [cond_false, Option.bind_some]
    rw [decide_eq_false h1]; rfl

theorem l_markMine {a : Mine} {k0 : Int} (h : a.aw.length ≤ 1048576) (h0 : 0 ≤ k0) (h1 : k0 ≤ 1152921504606846976) : p_laws_markMine a k0 = some (k0 + 3 * (a.aw.length : Int), mkAirway a.aw.length k0) := by
  unfold p_laws_markMine; rw [l_markAirwayS h h0 h1]; rfl
end Go.Proofs.Ytkedammjdldloaa
