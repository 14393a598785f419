/- What the laws' own functions compute on lists of Leg; no condition but the sizes. -/
import Derived.Test.YtkhjbfngafebeaaZLa
import Derived.Test.YtkhjbfngafebeaaZQ
namespace Go.Proofs.Ytkhjbfngafebeaa
open Go
set_option linter.unusedVariables false
set_option linter.unusedSimpArgs false

theorem l_toLegS {a : List Leg} (h : a.length ≤ 1048576) : p_laws_toLegS a = some a := by
  unfold p_laws_toLegS
  rw [sized_at (by omega)]
  have := loop_stop (B := p_laws_toLegS_L0 a a.length) (fun k => ((k : Int), fillG a ⟨0, 0, 0, 0, 0⟩ k)) a.length (e := a) (fun k hk => by
    simp only [p_laws_toLegS_L0, p_laws_toLeg]
    rw [decide_eq_true (by omega), idx_at hk]
    simp only [Option.bind_some]
    rw [idx_at hk, w64_succ (by omega), fillG_set hk]; rfl) (by
    simp only [p_laws_toLegS_L0]
    rw [decide_eq_false (by omega), fillG_end]; rfl)
  rw [← fillG_zero] at this
  rw [show ((0 : Int), List.replicate a.length (⟨0, 0, 0, 0, 0⟩ : Leg)) = (((0 : Nat) : Int), List.replicate a.length (⟨0, 0, 0, 0, 0⟩ : Leg)) from rfl, this]; rfl
theorem l_eqLeg {a b : Leg} : p_laws_eqLeg a b = some (decide (a = b)) := by
  obtain ⟨x0, x1, x2, x3, x4⟩ := a
  obtain ⟨y0, y1, y2, y3, y4⟩ := b
  simp only [p_laws_eqLeg, bne_dec, Leg.mk.injEq]
  by_cases h0 : x0 = y0 <;> by_cases h1 : x1 = y1 <;> by_cases h2 : x2 = y2 <;> by_cases h3 : x3 = y3 <;> by_cases h4 : x4 = y4 <;> simp [h0, h1, h2, h3, h4]
theorem l_eqLegS {a b : List Leg} (h : a.length ≤ 4611686018427387904) : p_laws_eqLegS a b = some (decide (a = b)) := by
  unfold p_laws_eqLegS
  by_cases e : a.length = b.length
  · rw [loop_all (fun k => decide (gx a k = gx b k)) a.length false (fun k hk => by
      simp only [p_laws_eqLegS_L0, l_eqLeg]
      rw [decide_eq_true (by omega), idx_at hk, idx_at (by omega), w64_succ (by omega)]
      cases decide (gx a k = gx b k) <;> rfl) (by simp only [p_laws_eqLegS_L0]; rw [decide_eq_false (by omega)]; rfl), all_eq e, e]
    simp only [bne_self_eq_false, cond_false]
    cases decide (a = b) <;> rfl
  · rw [decide_eq_false (fun h => e (by rw [h]))]
    have : (((a.length : Nat) : Int) != ((b.length : Nat) : Int)) = true := by simp; omega
    rw [this]; rfl
theorem l_szLegS {a : List Leg} {l : Int} (h : a.length ≤ 9223372036854775807) (h0 : 0 ≤ l) (h1 : l ≤ 4611686018427387904) : p_laws_szLegS a l = some (if l < a.length then -1 else l - a.length) := by
  unfold p_laws_szLegS
  rw [w64_in (by omega) (by omega)]
  split
  · rw [decide_eq_true (by omega)]; rfl
  · rw [decide_eq_false (by omega)]; rfl

def mkLeg (n : Nat) (k : Int) : List Leg := (List.range n).map fun i : Nat => ⟨k + 5 * (i : Int), k + 5 * (i : Int) + 1, k + 5 * (i : Int) + 2, k + 5 * (i : Int) + 3, k + 5 * (i : Int) + 4⟩
theorem mkLeg_len {n : Nat} {k : Int} : (mkLeg n k).length = n := by simp [mkLeg]
theorem mkLeg_gx {n : Nat} {k : Int} {i : Nat} (h : i < n) : gx (mkLeg n k) i = ⟨k + 5 * (i : Int), k + 5 * (i : Int) + 1, k + 5 * (i : Int) + 2, k + 5 * (i : Int) + 3, k + 5 * (i : Int) + 4⟩ := by
  unfold mkLeg
  rw [gx_of_map (f := fun i : Nat => (⟨k + 5 * (i : Int), k + 5 * (i : Int) + 1, k + 5 * (i : Int) + 2, k + 5 * (i : Int) + 3, k + 5 * (i : Int) + 4⟩ : Leg)) (by simpa using h)]
  have : gx (List.range n) i = i := by rw [gx_eq (by simpa using h)]; simp
  rw [this]
theorem l_markLegS {a : List Leg} {k0 : Int} (h : a.length ≤ 1048576) (h0 : 0 ≤ k0) (h1 : k0 ≤ 1152921504606846976) : p_laws_markLegS a k0 = some (k0 + 5 * (a.length : Int), mkLeg a.length k0) := by
  unfold p_laws_markLegS
  have := loop_stop (B := p_laws_markLegS_L0 a) (fun k => (k0 + 5 * (k : Int), (k : Int), mixG (mkLeg a.length k0) a k)) a.length (e := (k0 + 5 * (a.length : Int), mkLeg a.length k0)) (fun k hk => by
    simp only [p_laws_markLegS_L0]
    have hl : (mixG (mkLeg a.length k0) a k).length = a.length := mixG_len mkLeg_len
    rw [decide_eq_true (by omega), idx_at hk, w64_succ (by omega), w64_in (x := k0 + 5 * (k : Int) + 1) (by omega) (by omega), w64_in (x := k0 + 5 * (k : Int) + 1 + 1) (by omega) (by omega), w64_in (x := k0 + 5 * (k : Int) + 1 + 1 + 1) (by omega) (by omega), w64_in (x := k0 + 5 * (k : Int) + 1 + 1 + 1 + 1) (by omega) (by omega), w64_in (x := k0 + 5 * (k : Int) + 1 + 1 + 1 + 1 + 1) (by omega) (by omega), ← mixG_set mkLeg_len hk, mkLeg_gx hk]
    simp only [cond_true, List.set_set]
    rw [gx_set_self (by omega), gx_set_self (by omega), gx_set_self (by omega), gx_set_self (by omega)]
    have e0 : k0 + 5 * (k : Int) + 1 + 1 + 1 + 1 + 1 = k0 + 5 * ((k + 1 : Nat) : Int) := by omega
    have e1 : k0 + 5 * (k : Int) + 1 + 1 + 1 + 1 = k0 + 5 * (k : Int) + 4 := by omega
    have e2 : k0 + 5 * (k : Int) + 1 + 1 + 1 = k0 + 5 * (k : Int) + 3 := by omega
    have e3 : k0 + 5 * (k : Int) + 1 + 1 = k0 + 5 * (k : Int) + 2 := by omega
    rw [e0, e1, e2, e3]) (by
    simp only [p_laws_markLegS_L0]
    rw [decide_eq_false (by omega), mixG_end mkLeg_len]; rfl)
  rw [mixG_zero] at this
  rw [show (k0, (0 : Int), a) = (k0 + 5 * ((0 : Nat) : Int), ((0 : Nat) : Int), a) by simp, this]; rfl
theorem l_toSurvey {a : Survey} (h : a.legs.length ≤ 1048576) : p_laws_toSurvey a = some a := by
  unfold p_laws_toSurvey; rw [l_toLegS h]; rfl
theorem l_eqSurvey {a b : Survey} (h : a.legs.length ≤ 4611686018427387904) : p_laws_eqSurvey a b = some (decide (a = b)) := by
  obtain ⟨p, l⟩ := a
  obtain ⟨p', l'⟩ := b
  simp only [p_laws_eqSurvey, bne_dec, Survey.mk.injEq, l_eqLegS h, Option.bind_some]
  by_cases h1 : p = p' <;> by_cases h2 : l = l' <;> simp [h1, h2]
theorem l_szSurvey {a : Survey} (h : a.legs.length ≤ 9223372036854775807) : ∃ x, p_laws_szSurvey a 1048576 = some x ∧ (x < 0 ∨ a.legs.length ≤ 1048576) := by
  simp only [p_laws_szSurvey]
  rw [l_szLegS h (by decide) (by decide)]
  by_cases h1 : (1048576 : Int) < (a.legs.length : Int)
  · rw [if_pos h1]; exact ⟨-1, rfl, .inl (by decide)⟩
  · rw [if_neg h1]
    refine ⟨1048576 - (a.legs.length : Int), ?_, .inr (by omega)⟩
    simp only [Option.bind_some]
    rw [decide_eq_false (by omega)]; rfl
theorem l_markSurvey {a : Survey} {k0 : Int} (h : a.legs.length ≤ 1048576) (h0 : 0 ≤ k0) (h1 : k0 ≤ 1152921504606846976) : p_laws_markSurvey a k0 = some (k0 + 5 * (a.legs.length : Int), mkLeg a.legs.length k0) := by
  unfold p_laws_markSurvey; rw [l_markLegS h h0 h1]; rfl
end Go.Proofs.Ytkhjbfngafebeaa
