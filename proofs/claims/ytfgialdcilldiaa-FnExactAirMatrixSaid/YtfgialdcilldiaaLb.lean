/- What the laws' own functions compute on lists and structs; no condition but the sizes. -/
import Derived.Test.YtfgialdcilldiaaLa
import Derived.Test.YtfgialdcilldiaaQi
import Derived.Test.YtfgialdcilldiaaQa
namespace Go.Proofs.Ytfgialdcilldiaa
open Go
set_option linter.unusedVariables false
set_option linter.unusedSimpArgs false

theorem l_toIntS {a : List Int} (h : a.length ≤ 1048576) : p_laws_toIntS a = some a := by
  unfold p_laws_toIntS
  rw [sized_at (by omega)]
  have := loop_stop (B := p_laws_toIntS_L0 a a.length) (fun k => ((k : Int), fillG a 0 k)) a.length (e := a) (fun k hk => by
    simp only [p_laws_toIntS_L0]
    rw [decide_eq_true (by omega), idx_at hk, idx_at hk, w64_succ (by omega), fillG_set hk]; rfl) (by
    simp only [p_laws_toIntS_L0]
    rw [decide_eq_false (by omega), fillG_end]; rfl)
  rw [← fillG_zero] at this
  rw [show ((0 : Int), List.replicate a.length (0 : Int)) = (((0 : Nat) : Int), List.replicate a.length (0 : Int)) from rfl, this]; rfl
theorem l_toAirwayS {a : List Airway} (h : a.length ≤ 1048576) : p_laws_toAirwayS a = some a := by
  unfold p_laws_toAirwayS
  rw [sized_at (by omega)]
  have := loop_stop (B := p_laws_toAirwayS_L0 a a.length) (fun k => ((k : Int), fillG a ⟨0, 0, 0⟩ k)) a.length (e := a) (fun k hk => by
    simp only [p_laws_toAirwayS_L0, p_laws_toAirway]
    rw [decide_eq_true (by omega), idx_at hk]
    simp only [Option.bind_some]
    rw [idx_at hk, w64_succ (by omega), fillG_set hk]; rfl) (by
    simp only [p_laws_toAirwayS_L0]
    rw [decide_eq_false (by omega), fillG_end]; rfl)
  rw [← fillG_zero] at this
  rw [show ((0 : Int), List.replicate a.length (⟨0, 0, 0⟩ : Airway)) = (((0 : Nat) : Int), List.replicate a.length (⟨0, 0, 0⟩ : Airway)) from rfl, this]; rfl
theorem l_toMine {a : Mine} (h : a.aw.length ≤ 1048576) : p_laws_toMine a = some a := by
  unfold p_laws_toMine; rw [l_toAirwayS h]; rfl
theorem l_eqIntS {a b : List Int} (h : a.length ≤ 4611686018427387904) : p_laws_eqIntS a b = some (decide (a = b)) := by
  unfold p_laws_eqIntS
  by_cases e : a.length = b.length
  · rw [loop_all (fun k => decide (gx a k = gx b k)) a.length false (fun k hk => by
      simp only [p_laws_eqIntS_L0]
      rw [decide_eq_true (by omega), idx_at hk, idx_at (by omega), w64_succ (by omega), bne_dec]
      cases decide (gx a k = gx b k) <;> rfl) (by simp only [p_laws_eqIntS_L0]; rw [decide_eq_false (by omega)]; rfl), all_eq e, e]
    simp only [bne_self_eq_false, cond_false]
    cases decide (a = b) <;> rfl
  · rw [decide_eq_false (fun h => e (by rw [h]))]
    have : (((a.length : Nat) : Int) != ((b.length : Nat) : Int)) = true := by simp; omega
    rw [this]; rfl
theorem l_eqAirway {a b : Airway} : p_laws_eqAirway a b = some (decide (a = b)) := by
  obtain ⟨f, t, w⟩ := a
  obtain ⟨f', t', w'⟩ := b
  simp only [p_laws_eqAirway, bne_dec, Airway.mk.injEq]
  by_cases h1 : f = f' <;> by_cases h2 : t = t' <;> by_cases h3 : w = w' <;> simp [h1, h2, h3]
theorem l_eqAirwayS {a b : List Airway} (h : a.length ≤ 4611686018427387904) : p_laws_eqAirwayS a b = some (decide (a = b)) := by
  unfold p_laws_eqAirwayS
  by_cases e : a.length = b.length
  · rw [loop_all (fun k => decide (gx a k = gx b k)) a.length false (fun k hk => by
      simp only [p_laws_eqAirwayS_L0, l_eqAirway]
      rw [decide_eq_true (by omega), idx_at hk, idx_at (by omega), w64_succ (by omega)]
      cases decide (gx a k = gx b k) <;> rfl) (by simp only [p_laws_eqAirwayS_L0]; rw [decide_eq_false (by omega)]; rfl), all_eq e, e]
    simp only [bne_self_eq_false, cond_false]
    cases decide (a = b) <;> rfl
  · rw [decide_eq_false (fun h => e (by rw [h]))]
    have : (((a.length : Nat) : Int) != ((b.length : Nat) : Int)) = true := by simp; omega
    rw [this]; rfl
theorem l_eqMine {a b : Mine} (h : a.aw.length ≤ 4611686018427387904) : p_laws_eqMine a b = some (decide (a = b)) := by
  obtain ⟨p, l⟩ := a
  obtain ⟨p', l'⟩ := b
  simp only [p_laws_eqMine, bne_dec, Mine.mk.injEq, l_eqAirwayS h, Option.bind_some]
  by_cases h1 : p = p' <;> by_cases h2 : l = l' <;> simp [h1, h2]
theorem l_szMine {a : Mine} (h : a.aw.length ≤ 9223372036854775807) : ∃ x, p_laws_szMine a 1048576 = some x ∧ (x < 0 ∨ a.aw.length ≤ 1048576) := by
  simp only [p_laws_szMine, p_laws_szAirwayS]
  rw [w64_in (by omega) (by omega)]
  by_cases h1 : 1048576 - (a.aw.length : Int) < 0
  · rw [decide_eq_true h1]; exact ⟨_, rfl, .inl (by decide)⟩
  · rw [decide_eq_false h1]
    refine ⟨1048576 - (a.aw.length : Int), ?_, .inr (by omega)⟩
    simp only [cond_false, Option.bind_some]
    rw [decide_eq_false h1]; rfl

/-! ### Marks -/
def markI (n : Nat) (k : Int) : List Int := (List.range n).map fun i : Nat => k + (i : Int)
theorem markI_len {n : Nat} {k : Int} : (markI n k).length = n := by simp [markI]
theorem markI_gx {n : Nat} {k : Int} {i : Nat} (h : i < n) : gx (markI n k) i = k + (i : Int) := by
  unfold markI
  rw [gx_of_map (f := fun i : Nat => k + (i : Int)) (by simpa using h)]
  have : gx (List.range n) i = i := by rw [gx_eq (by simpa using h)]; simp
  rw [this]
theorem l_markIntS {a : List Int} {k0 : Int} (h : a.length ≤ 1099511627776) (h0 : 0 ≤ k0) (h1 : k0 ≤ 1152921504606846976) : p_laws_markIntS a k0 = some (k0 + (a.length : Int), markI a.length k0) := by
  unfold p_laws_markIntS
  have := loop_stop (B := p_laws_markIntS_L0 a) (fun k => (k0 + (k : Int), (k : Int), mixG (markI a.length k0) a k)) a.length (e := (k0 + (a.length : Int), markI a.length k0)) (fun k hk => by
    simp only [p_laws_markIntS_L0]
    have e1 : k0 + (k : Int) + 1 = k0 + ((k + 1 : Nat) : Int) := by omega
    rw [decide_eq_true (by omega), idx_at hk, w64_succ (by omega), w64_in (x := k0 + (k : Int) + 1) (by omega) (by omega), ← mixG_set markI_len hk, markI_gx hk, e1]
    rfl) (by
    simp only [p_laws_markIntS_L0]
    rw [decide_eq_false (by omega), mixG_end markI_len]; rfl)
  rw [mixG_zero] at this
  rw [show (k0, (0 : Int), a) = (k0 + ((0 : Nat) : Int), ((0 : Nat) : Int), a) by simp, this]; rfl
theorem l_heldIntS {n : Nat} {k0 : Int} (h : n ≤ 1099511627776) (h0 : 0 ≤ k0) (h1 : k0 ≤ 1152921504606846976) : p_laws_heldIntS (markI n k0) k0 = some (k0 + (n : Int)) := by
  unfold p_laws_heldIntS
  have := loop_stop (B := p_laws_heldIntS_L0 (markI n k0)) (fun k => (k0 + (k : Int), (k : Int))) n (e := .inl (k0 + (n : Int))) (fun k hk => by
    simp only [p_laws_heldIntS_L0, markI_len]
    have e1 : k0 + (k : Int) + 1 = k0 + ((k + 1 : Nat) : Int) := by omega
    rw [decide_eq_true (by omega), idx_at hk, w64_succ (by omega), w64_in (x := k0 + (k : Int) + 1) (by omega) (by omega), markI_gx hk, e1]
    simp only [cond_true, bne_self_eq_false, cond_false]) (by
    simp only [p_laws_heldIntS_L0, markI_len]
    rw [decide_eq_false (by omega)]; rfl)
  rw [show (k0, (0 : Int)) = (k0 + ((0 : Nat) : Int), ((0 : Nat) : Int)) by simp, this]; rfl
def markA (n : Nat) (k : Int) : List Airway := (List.range n).map fun i : Nat => ⟨k + 3 * (i : Int), k + 3 * (i : Int) + 1, k + 3 * (i : Int) + 2⟩
theorem markA_len {n : Nat} {k : Int} : (markA n k).length = n := by simp [markA]
theorem markA_gx {n : Nat} {k : Int} {i : Nat} (h : i < n) : gx (markA n k) i = ⟨k + 3 * (i : Int), k + 3 * (i : Int) + 1, k + 3 * (i : Int) + 2⟩ := by
  unfold markA
  rw [gx_of_map (f := fun i : Nat => (⟨k + 3 * (i : Int), k + 3 * (i : Int) + 1, k + 3 * (i : Int) + 2⟩ : Airway)) (by simpa using h)]
  have : gx (List.range n) i = i := by rw [gx_eq (by simpa using h)]; simp
  rw [this]
theorem l_markAirwayS {a : List Airway} {k0 : Int} (h : a.length ≤ 1048576) (h0 : 0 ≤ k0) (h1 : k0 ≤ 1152921504606846976) : p_laws_markAirwayS a k0 = some (k0 + 3 * (a.length : Int), markA a.length k0) := by
  unfold p_laws_markAirwayS
  have := loop_stop (B := p_laws_markAirwayS_L0 a) (fun k => (k0 + 3 * (k : Int), (k : Int), mixG (markA a.length k0) a k)) a.length (e := (k0 + 3 * (a.length : Int), markA a.length k0)) (fun k hk => by
    simp only [p_laws_markAirwayS_L0]
    have hl : (mixG (markA a.length k0) a k).length = a.length := mixG_len markA_len
    rw [decide_eq_true (by omega), idx_at hk, w64_succ (by omega), w64_in (x := k0 + 3 * (k : Int) + 1) (by omega) (by omega), w64_in (x := k0 + 3 * (k : Int) + 1 + 1) (by omega) (by omega), w64_in (x := k0 + 3 * (k : Int) + 1 + 1 + 1) (by omega) (by omega), ← mixG_set markA_len hk, markA_gx hk]
    simp only [cond_true, List.set_set]
    rw [gx_set_self (by omega), gx_set_self (by omega)]
    have e1 : k0 + 3 * (k : Int) + 1 + 1 + 1 = k0 + 3 * ((k + 1 : Nat) : Int) := by omega
    have e2 : k0 + 3 * (k : Int) + 1 + 1 = k0 + 3 * (k : Int) + 2 := by omega
    rw [e1, e2]) (by
    simp only [p_laws_markAirwayS_L0]
    rw [decide_eq_false (by omega), mixG_end markA_len]; rfl)
  rw [mixG_zero] at this
  rw [show (k0, (0 : Int), a) = (k0 + 3 * ((0 : Nat) : Int), ((0 : Nat) : Int), a) by simp, this]; rfl
theorem l_heldAirwayS {n : Nat} {k0 : Int} (h : n ≤ 1048576) (h0 : 0 ≤ k0) (h1 : k0 ≤ 1152921504606846976) : p_laws_heldAirwayS (markA n k0) k0 = some (k0 + 3 * (n : Int)) := by
  unfold p_laws_heldAirwayS
  have := loop_stop (B := p_laws_heldAirwayS_L0 (markA n k0)) (fun k => (k0 + 3 * (k : Int), (k : Int))) n (e := .inl (k0 + 3 * (n : Int))) (fun k hk => by
    simp only [p_laws_heldAirwayS_L0, markA_len]
    have e1 : k0 + 3 * (k : Int) + 1 + 1 + 1 = k0 + 3 * ((k + 1 : Nat) : Int) := by omega
    have e2 : k0 + 3 * (k : Int) + 1 + 1 = k0 + 3 * (k : Int) + 2 := by omega
    rw [decide_eq_true (by omega), idx_at hk, w64_succ (by omega), w64_in (x := k0 + 3 * (k : Int) + 1) (by omega) (by omega), w64_in (x := k0 + 3 * (k : Int) + 1 + 1) (by omega) (by omega), w64_in (x := k0 + 3 * (k : Int) + 1 + 1 + 1) (by omega) (by omega), markA_gx hk, e1, e2]
    simp only [cond_true, bne_self_eq_false, cond_false]) (by
    simp only [p_laws_heldAirwayS_L0, markA_len]
    rw [decide_eq_false (by omega)]; rfl)
  rw [show (k0, (0 : Int)) = (k0 + 3 * ((0 : Nat) : Int), ((0 : Nat) : Int)) by simp, this]; rfl
theorem l_markMine {a : Mine} {k0 : Int} (h : a.aw.length ≤ 1048576) (h0 : 0 ≤ k0) (h1 : k0 ≤ 1152921504606846976) : p_laws_markMine a k0 = some (k0 + 3 * (a.aw.length : Int), markA a.aw.length k0) := by
  unfold p_laws_markMine; rw [l_markAirwayS h h0 h1]; rfl
end Go.Proofs.Ytfgialdcilldiaa
