/- Lists of lists compared and marked; no condition but the sizes. -/
import Derived.Test.YtkedammjdldloaaEi
import Derived.Test.YtkedammjdldloaaQen
namespace Go.Proofs.Ytkedammjdldloaa
open Go
set_option linter.unusedVariables false
set_option linter.unusedSimpArgs false

theorem l_eqIntSS {a b : List (List Int)} (h : a.length ≤ 4611686018427387904) (hr : ∀ k, k < a.length → (gx a k).length ≤ 4611686018427387904) : p_laws_eqIntSS a b = some (decide (a = b)) := by
  unfold p_laws_eqIntSS
  by_cases e : a.length = b.length
  · rw [loop_all (fun k => decide (gx a k = gx b k)) a.length false (fun k hk => by
      simp only [p_laws_eqIntSS_L0]
      rw [decide_eq_true (by omega), idx_at hk, idx_at (by omega), w64_succ (by omega), l_eqIntS (hr k hk)]
      simp only [Option.bind_some, cond_true]
      cases decide (gx a k = gx b k) <;> rfl) (by simp only [p_laws_eqIntSS_L0]; rw [decide_eq_false (by omega)]; rfl), all_eq e, e]
    simp only [bne_self_eq_false, cond_false]
    cases decide (a = b) <;> rfl
  · rw [decide_eq_false (fun h => e (by rw [h]))]
    have : (((a.length : Nat) : Int) != ((b.length : Nat) : Int)) = true := by simp; omega
    rw [this]; rfl

/-- How many numbers stand in the first rows. -/
def cnt (a : List (List Int)) : Nat → Nat
  | 0 => 0
  | k + 1 => cnt a k + (gx a k).length
theorem cnt_mono {a : List (List Int)} {k j : Nat} (h : k ≤ j) : cnt a k ≤ cnt a j := by
  induction j with
  | zero => have : k = 0 := by omega
            subst this; exact Nat.le_refl _
  | succ j ih =>
    by_cases e : k = j + 1
    · subst e; exact Nat.le_refl _
    · exact Nat.le_trans (ih (by omega)) (by simp [cnt])
def markSS (a : List (List Int)) (k0 : Int) : List (List Int) := (List.range a.length).map fun i : Nat => markI (gx a i).length (k0 + (cnt a i : Int))
theorem markSS_len {a : List (List Int)} {k0 : Int} : (markSS a k0).length = a.length := by simp [markSS]
theorem markSS_gx {a : List (List Int)} {k0 : Int} {i : Nat} (h : i < a.length) : gx (markSS a k0) i = markI (gx a i).length (k0 + (cnt a i : Int)) := by
  unfold markSS
  rw [gx_of_map (f := fun i : Nat => markI (gx a i).length (k0 + (cnt a i : Int))) (by simpa using h)]
  have : gx (List.range a.length) i = i := by rw [gx_eq (by simpa using h)]; simp
  rw [this]
theorem l_markIntSS {a : List (List Int)} {k0 : Int} (h : a.length ≤ 1048576) (hr : ∀ k, k < a.length → (gx a k).length ≤ 1099511627776) (hc : cnt a a.length ≤ 1125899906842624) (h0 : 0 ≤ k0) (h1 : k0 ≤ 1125899906842624) :
    p_laws_markIntSS a k0 = some (k0 + (cnt a a.length : Int), markSS a k0) := by
  unfold p_laws_markIntSS
  have := loop_stop (B := p_laws_markIntSS_L0 a) (fun k => (k0 + (cnt a k : Int), (k : Int), mixG (markSS a k0) a k)) a.length (e := (k0 + (cnt a a.length : Int), markSS a k0)) (fun k hk => by
    have hm := cnt_mono (a := a) (show k ≤ a.length by omega)
    simp only [p_laws_markIntSS_L0]
    rw [decide_eq_true (by omega), idx_at hk, w64_succ (by omega), mixG_gx markSS_len hk, l_markIntS (hr k hk) (by omega) (by omega), ← mixG_set markSS_len hk, markSS_gx hk]
    simp only [Option.bind_some, cond_true, cnt]
    congr 3
    rw [Int.natCast_add]; omega) (by
    simp only [p_laws_markIntSS_L0]
    rw [decide_eq_false (by omega), mixG_end markSS_len]; rfl)
  rw [mixG_zero] at this
  rw [show (k0, (0 : Int), a) = (k0 + (cnt a 0 : Int), ((0 : Nat) : Int), a) by simp [cnt], this]; rfl
theorem l_heldIntSS {a : List (List Int)} {k0 : Int} (h : a.length ≤ 1048576) (hr : ∀ k, k < a.length → (gx a k).length ≤ 1099511627776) (hc : cnt a a.length ≤ 1125899906842624) (h0 : 0 ≤ k0) (h1 : k0 ≤ 1125899906842624) :
    p_laws_heldIntSS (markSS a k0) k0 = some (k0 + (cnt a a.length : Int)) := by
  unfold p_laws_heldIntSS
  have := loop_stop (B := p_laws_heldIntSS_L0 (markSS a k0)) (fun k => (k0 + (cnt a k : Int), (k : Int))) a.length (e := .inl (k0 + (cnt a a.length : Int))) (fun k hk => by
    have hm := cnt_mono (a := a) (show k ≤ a.length by omega)
    simp only [p_laws_heldIntSS_L0, markSS_len]
    rw [decide_eq_true (by omega), idx_at hk, w64_succ (by omega), markSS_gx hk, l_heldIntS (hr k hk) (by omega) (by omega)]
    simp only [Option.bind_some, cond_true, cnt]
    rw [decide_eq_false (by omega)]
    simp only [cond_false]
    congr 3
    rw [Int.natCast_add]; omega) (by
    simp only [p_laws_heldIntSS_L0, markSS_len]
    rw [decide_eq_false (by omega)]; rfl)
  rw [show (k0, (0 : Int)) = (k0 + (cnt a 0 : Int), ((0 : Nat) : Int)) by simp [cnt], this]; rfl
theorem cnt_bd {a : List (List Int)} {b : Nat} (h : ∀ k, k < a.length → (gx a k).length ≤ b) : ∀ k, k ≤ a.length → cnt a k ≤ k * b
  | 0, _ => by simp [cnt]
  | k + 1, hk => by
    have h1 := cnt_bd h k (by omega)
    have h2 := h k (by omega)
    simp only [cnt, Nat.add_mul]; omega
end Go.Proofs.Ytkedammjdldloaa
