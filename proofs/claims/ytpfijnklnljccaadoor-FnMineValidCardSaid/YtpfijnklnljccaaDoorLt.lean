/- Plain partial programs that end, and what holds of what they return; no condition. -/
import Derived.Test.YtpfijnklnljccaaDoorLa
import Derived.Test.YtpfijnklnljccaaDoorBa
namespace Go.Proofs.YtpfijnklnljccaaDoor
open Go
set_option linter.unusedVariables false
set_option linter.unusedSimpArgs false

/-- The program returns something, of which Q holds. -/
def Tot {α : Type} (x : O α) (Q : α → Prop) : Prop := ∃ v, x = some v ∧ Q v
section
variable {α β : Type} {Q : β → Prop}
theorem Tot.ret {v : β} (h : Q v) : Tot (some v) Q := ⟨v, rfl, h⟩
theorem Tot.eq {x : O β} {v : β} (e : x = some v) (h : Q v) : Tot x Q := ⟨v, e, h⟩
theorem Tot.mono {x : O β} {R : β → Prop} (h : Tot x Q) (hr : ∀ v, Q v → R v) : Tot x R := by
  obtain ⟨v, e, hq⟩ := h; exact ⟨v, e, hr v hq⟩
theorem Tot.bind {x : O α} {f : α → O β} {R : α → Prop} (h : Tot x R) (hf : ∀ v, R v → Tot (f v) Q) : Tot (x.bind f) Q := by
  obtain ⟨v, e, hr⟩ := h; rw [e]; exact hf v hr
theorem Tot.bind1 {x : O α} {f : α → O β} {v : α} (e : x = some v) (hf : Tot (f v) Q) : Tot (x.bind f) Q := by rw [e]; exact hf
theorem Tot.cond {b : Bool} {x y : O β} (h1 : b = true → Tot x Q) (h2 : b = false → Tot y Q) : Tot (cond b x y) Q := by
  cases b with
  | true => exact h1 rfl
  | false => exact h2 rfl
theorem Tot.condd {p : Prop} [Decidable p] {x y : O β} (h1 : p → Tot x Q) (h2 : ¬ p → Tot y Q) : Tot (_root_.cond (decide p) x y) Q :=
  Tot.cond (fun h => h1 (of_decide_eq_true h)) (fun h => h2 (of_decide_eq_false h))
theorem Tot.idx {n : Nat} {i : Int} {k : Nat → O β} (h : 0 ≤ i ∧ i < (n : Int)) (hk : ∀ j : Nat, i = (j : Int) → j < n → Tot (k j) Q) : Tot (idx n i k) Q := by
  rw [idx_of h]; exact hk _ (by omega) (by omega)
theorem Tot.need {p : Prop} {d : Decidable p} {k : O β} (h : p) (hk : Tot k Q) : Tot (@need β p d k) Q := by rw [need_of h]; exact hk
theorem Tot.sized {n : Int} {k : Nat → O β} (h : 0 ≤ n ∧ n ≤ 1073741824) (hk : ∀ j : Nat, n = (j : Int) → Tot (k j) Q) : Tot (sized n k) Q := by
  rw [sized_of h]; exact hk _ (by omega)
theorem Tot.cut {n : Nat} {i j : Int} {k : Nat → Nat → O β} (h : 0 ≤ i ∧ i ≤ j ∧ j ≤ (n : Int)) (hk : ∀ a b : Nat, i = (a : Int) → j = (b : Int) → a ≤ b → b ≤ n → Tot (k a b) Q) : Tot (cut n i j k) Q := by
  rw [cut_of h]; exact hk _ _ (by omega) (by omega) (by omega) (by omega)
theorem Tot.loop {σ : Type} {B : σ → O (Lp σ β)} {s : σ} (I : σ → Prop) (μ : σ → Nat)
    (h : ∀ s, I s → Tot (B s) fun c => match c with | .next s' => I s' ∧ μ s' < μ s | .out e => Q e) (h0 : I s) : Tot (loop B s) Q :=
  loop_inv I μ (fun s hs => by
    obtain ⟨c, e, hc⟩ := h s hs
    refine ⟨c, e, ?_⟩
    cases c <;> exact hc) h0
end
theorem Tot.get {α : Type} {x : O α} {v : α} (h : Tot x (· = v)) : x = some v := by
  obtain ⟨w, e, h⟩ := h; rw [e, h]

/-- A loop over the numbers below n, its state a function of how many are done. -/
theorem loop_to {σ ε : Type} {B : σ → O (Lp σ ε)} (f : Nat → σ) (n : Nat) {s : σ} {e : ε} (h0 : s = f 0) (hn : ∀ k, k < n → B (f k) = some (.next (f (k + 1)))) (he : B (f n) = some (.out e)) : loop B s = some e := by
  rw [h0]; exact loop_stop f n hn he
theorem w64_i {x : Int} (h : -9223372036854775808 ≤ x ∧ x ≤ 9223372036854775807) : w64 x = x := w64_in h.1 h.2
end Go.Proofs.YtpfijnklnljccaaDoor
