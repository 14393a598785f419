/- Plain facts on loops, lists and numbers that the plain programs need; no condition. -/
import Derived.Test.YtpfijnklnljccaaDoorDa
namespace Go.Proofs.YtpfijnklnljccaaDoor
open Go
set_option linter.unusedVariables false
set_option linter.unusedSimpArgs false

theorem w64_succ {k : Nat} (h : k ≤ 4611686018427387904) : w64 ((k : Int) + 1) = ((k + 1 : Nat) : Int) := by rw [w64_in (by omega) (by omega)]; omega
theorem w64_nat {k : Nat} (h : k ≤ 4611686018427387904) : w64 (k : Int) = (k : Int) := w64_in (by omega) (by omega)

/-! ### A slice that is filled from its front -/
def fillG {α : Type} (l : List α) (z : α) (k : Nat) : List α := l.take k ++ List.replicate (l.length - k) z
theorem fillG_zero {α : Type} {l : List α} {z : α} : List.replicate l.length z = fillG l z 0 := by simp [fillG]
theorem fillG_end {α : Type} {l : List α} {z : α} : fillG l z l.length = l := by simp [fillG]
theorem fillG_len {α : Type} {l : List α} {z : α} {k : Nat} (h : k ≤ l.length) : (fillG l z k).length = l.length := by simp [fillG]; omega
theorem fillG_set {α : Type} [Inhabited α] {l : List α} {z : α} {k : Nat} (h : k < l.length) : (fillG l z k).set k (gx l k) = fillG l z (k + 1) := by
  unfold fillG
  rw [List.set_append_right _ _ (by simp; omega), take_gx h]
  have e1 : k - (l.take k).length = 0 := by simp; omega
  have e2 : l.length - k = (l.length - (k + 1)) + 1 := by omega
  rw [e1, e2, List.replicate_succ, List.set_cons_zero, List.append_assoc]
  rfl

/-! ### A list that is overwritten from its front -/
def mixG {α : Type} (m l : List α) (k : Nat) : List α := m.take k ++ l.drop k
theorem mixG_zero {α : Type} {m l : List α} : mixG m l 0 = l := by simp [mixG]
theorem mixG_end {α : Type} {m l : List α} (h : m.length = l.length) : mixG m l l.length = m := by
  unfold mixG; rw [List.drop_length, List.append_nil, ← h, List.take_length]
theorem mixG_len {α : Type} {m l : List α} {k : Nat} (h : m.length = l.length) : (mixG m l k).length = l.length := by simp [mixG]; omega
theorem mixG_gx {α : Type} [Inhabited α] {m l : List α} {k : Nat} (h : m.length = l.length) (hk : k < l.length) : gx (mixG m l k) k = gx l k := by
  unfold mixG
  rw [gx_app3 (by simp; omega), gx_drop]
  congr 1; simp; omega
theorem mixG_set {α : Type} [Inhabited α] {m l : List α} {k : Nat} (h : m.length = l.length) (hk : k < l.length) : (mixG m l k).set k (gx m k) = mixG m l (k + 1) := by
  unfold mixG
  rw [List.set_append_right _ _ (by simp; omega), take_gx (by omega)]
  have e1 : k - (m.take k).length = 0 := by simp; omega
  rw [e1, List.drop_eq_getElem_cons hk, List.set_cons_zero, List.append_assoc]
  rfl

/-! ### Loops that ask something of every number -/
theorem loop_all {ε : Type} {B : Int → O (Lp Int (Unit ⊕ ε))} (q : Nat → Bool) (n : Nat) (e : ε) (h : ∀ k, k < n → B (k : Int) = some (cond (q k) (.next ((k + 1 : Nat) : Int)) (.out (.inr e)))) (h2 : B (n : Int) = some (.out (.inl ()))) :
    loop B 0 = some (cond ((List.range n).all q) (.inl ()) (.inr e)) := by
  have key : ∀ k, k ≤ n → (∀ i, i < k → q i = true) → loop B (k : Int) = some (cond ((List.range n).all q) (.inl ()) (.inr e)) := by
    intro k hk hq
    generalize hd : n - k = d
    induction d generalizing k with
    | zero =>
      have : k = n := by omega
      subst this
      rw [loop_out h2]
      have : (List.range k).all q = true := by simpa using hq
      rw [this]; rfl
    | succ d ih =>
      have h1 := h k (by omega)
      cases hqk : q k with
      | true =>
        rw [hqk] at h1
        rw [loop_next h1]
        exact ih (k + 1) (by omega) (fun i hi => by
          by_cases e : i = k
          · subst e; exact hqk
          · exact hq i (by omega)) (by omega)
      | false =>
        rw [hqk] at h1
        rw [loop_out h1]
        have : (List.range n).all q = false := by
          rw [List.all_eq_false]
          exact ⟨k, by simp; omega, by simp [hqk]⟩
        rw [this]; rfl
  exact key 0 (Nat.zero_le _) (fun i hi => by omega)

theorem all_eq {α : Type} [Inhabited α] [DecidableEq α] {a b : List α} (h : a.length = b.length) : (List.range a.length).all (fun k => decide (gx a k = gx b k)) = decide (a = b) := by
  by_cases e : a = b
  · subst e; simp
  · rw [decide_eq_false e, List.all_eq_false]
    have : ¬ ∀ k, k < a.length → gx a k = gx b k := fun hh => e (gx_ext h hh)
    obtain ⟨k, hk⟩ := Classical.not_forall.1 this
    obtain ⟨h1, h2⟩ := Classical.not_imp.1 hk
    exact ⟨k, by simpa using h1, by simp [h2]⟩

theorem bne_dec {x y : Int} : (x != y) = !(decide (x = y)) := by
  by_cases h : x = y <;> simp [h]
theorem beq_dec {x y : Int} : (x == y) = decide (x = y) := by
  by_cases h : x = y <;> simp [h]
end Go.Proofs.YtpfijnklnljccaaDoor
