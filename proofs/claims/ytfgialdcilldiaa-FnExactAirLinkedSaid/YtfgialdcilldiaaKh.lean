/- More rules: a slice compared with nil, what a nil slice holds, lists that are overwritten from their front. -/
import Derived.Test.YtfgialdcilldiaaKg
import Derived.Test.YtfgialdcilldiaaPa
namespace Go.Proofs.Ytfgialdcilldiaa
open Go
set_option linter.unusedVariables false
set_option linter.unusedSimpArgs false

section
variable {P : Program} {N : Nat} {ro : List Chunk} {o : Oper} {sl : Slots} {ch : List Chunk}
theorem run_equal_nil (w : World) {t e : TypeId} {a : Option Addr} {n c : Nat} (d : Nat) (hu : ∀ w, (underlying t).run P w = .ok (.slice e) w) : (Op.equalIn (d + 1) t (.slice a n c) (.slice none 0 0)).run P w = .ok a.isNone w := by
  unfold Op.equalIn
  cases a <;> simp [hu]
theorem opv_eql_nil {t u e : TypeId} {x y : Operand} {a : Option Addr} {n c : Nat} (ho : o.op = .binOp .eql t x y u) (hx : kev N sl x = some (.slice a n c)) (hy : kev N sl y = some (.slice none 0 0))
    (hu : ∀ w, (underlying t).run P w = .ok (.slice e) w) : OpV P N ro ch o sl (.bool a.isNone) :=
  fun ac w hkn _ => by
    have h := run_equal_nil (P := P) w (a := a) (n := n) (c := c) 9999 hu
    unfold execOp; simp [ho, hkn.ev hx, hkn.ev hy, eqGuard, binOp, Op.equal, Op.maxDepth, h]
end

theorem slice_none {w : World} {rw : Bool} {n c sz : Nat} {es : List (List Value)} (h : (⟨.slice none n c, sz, es⟩ : Chunk).ok w rw) : n = 0 ∧ c = 0 ∧ es = [] := by
  obtain ⟨_, _, h2⟩ := h
  exact h2

theorem kwp_none {E : Env} {c : Code} {Q : Exit → KPred} {sl : Slots} {ch : List Chunk} {a : Option Addr} {n cap sz : Nat} {es : List (List Value)} (hm : (⟨.slice a n cap, sz, es⟩ : Chunk) ∈ E.ro ++ ch)
    (h : (a = none → n = 0 ∧ cap = 0 ∧ es = []) → KWp E c Q sl ch) : KWp E c Q sl ch :=
  fun ac w hi => h (fun e => by subst e; exact slice_none (mem_ok hi.st hm)) ac w hi

theorem get_set_self {l : List (List Value)} {i : Nat} {x : List Value} (h : i < l.length) : (l.set i x)[i]? = some x := by
  simp [h]

/-! ### Lists that are overwritten from their front -/
def mixL {α : Type} (m l : List α) (i : Nat) : List α := m.take i ++ l.drop i
theorem mix_zero {α : Type} {m l : List α} : mixL m l 0 = l := by simp [mixL]
theorem mix_end {α : Type} {m l : List α} {k : Nat} (h : m.length ≤ k) (h2 : l.length ≤ k) : mixL m l k = m := by simp [mixL, List.take_of_length_le h, List.drop_of_length_le h2]
theorem mix_len {α : Type} {m l : List α} {k : Nat} (h : m.length = l.length) : (mixL m l k).length = l.length := by
  simp [mixL]; omega
theorem mix_gx {α : Type} [Inhabited α] {m l : List α} {k : Nat} (h : m.length = l.length) (hk : k < l.length) : gx (mixL m l k) k = gx l k := by
  unfold mixL gx
  rw [List.getD_eq_getElem?_getD, List.getD_eq_getElem?_getD, List.getElem?_append_right (by simp; omega)]
  have : k - (m.take k).length = 0 := by simp; omega
  rw [this]; simp
theorem mix_get {α : Type} [Inhabited α] {f : α → List Value} {m l : List α} {k : Nat} (h : m.length = l.length) (hk : k < l.length) : ((mixL m l k).map f)[k]? = some (f (gx l k)) := by
  rw [gx_map (by rw [mix_len h]; exact hk), mix_gx h hk]
theorem mix_set {α : Type} [Inhabited α] {f : α → List Value} {m l : List α} {k : Nat} {e : List Value} (h : m.length = l.length) (hk : k < l.length) (he : e = f (gx m k)) : ((mixL m l k).map f).set k e = (mixL m l (k + 1)).map f := by
  subst he
  rw [map_set' rfl]
  congr 1
  apply gx_ext
  · rw [List.length_set, mix_len h, mix_len h]
  · intro j hj
    rw [List.length_set, mix_len h] at hj
    rw [gx_set (by rw [mix_len h]; exact hk)]
    unfold mixL gx
    simp only [List.getD_eq_getElem?_getD]
    split
    · rename_i e; subst e
      rw [List.getElem?_append_left (by simp; omega)]
      simp [List.getElem?_take]
    · by_cases h1 : j < k
      · rw [List.getElem?_append_left (by simp; omega), List.getElem?_append_left (by simp; omega)]
        simp [List.getElem?_take, h1, show j < k + 1 by omega]
      · rw [List.getElem?_append_right (by simp; omega), List.getElem?_append_right (by simp; omega)]
        simp only [List.length_take, List.getElem?_drop]
        rw [show k + (j - min k m.length) = j by omega, show k + 1 + (j - min (k + 1) m.length) = j by omega]
end Go.Proofs.Ytfgialdcilldiaa
