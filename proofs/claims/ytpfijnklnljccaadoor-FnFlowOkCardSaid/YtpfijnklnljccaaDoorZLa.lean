/- Plain facts on loops, lists and numbers; plain programs that end; square matrices by their entries; no condition. -/
import Derived.Test.YtpfijnklnljccaaDoorZDa
namespace Go.Proofs.YtpfijnklnljccaaDoor
open Go
set_option linter.unusedVariables false
set_option linter.unusedSimpArgs false

theorem w64_succ {k : Nat} (h : k ≤ 4611686018427387904) : w64 ((k : Int) + 1) = ((k + 1 : Nat) : Int) := by rw [w64_in (by omega) (by omega)]; omega
def mixG {α : Type} (m l : List α) (k : Nat) : List α := m.take k ++ l.drop k
theorem mixG_zero {α : Type} {m l : List α} : mixG m l 0 = l := by simp [mixG]
theorem mixG_end {α : Type} {m l : List α} (h : m.length = l.length) : mixG m l l.length = m := by
  unfold mixG; rw [List.drop_length, List.append_nil, ← h, List.take_length]
theorem mixG_len {α : Type} {m l : List α} {k : Nat} (h : m.length = l.length) : (mixG m l k).length = l.length := by simp [mixG]; omega
theorem mixG_gx {α : Type} [Inhabited α] {m l : List α} {k : Nat} (h : m.length = l.length) (hk : k < l.length) : gx (mixG m l k) k = gx l k := by
  unfold mixG
  rw [gx_app3 (by simp; omega), gx_drop]
  congr 1; simp; omega
theorem mixG_set {α : Type} [Inhabited α] {m l : List α} {k : Nat} (h : m.length = l.length) (hk : k < l.length) : (mixG m l k).set k (gx m k) = mixG m l (k + 1) := by
  unfold mixG
  rw [List.set_append_right _ _ (by simp; omega), take_gx (by omega)]
  have e1 : k - (m.take k).length = 0 := by simp; omega
  rw [e1, List.drop_eq_getElem_cons hk, List.set_cons_zero, List.append_assoc]
  rfl

theorem loop_all {ε : Type} {B : Int → O (Lp Int (Unit ⊕ ε))} (q : Nat → Bool) (n : Nat) (e : ε) (h : ∀ k, k < n → B (k : Int) = some (cond (q k) (.next ((k + 1 : Nat) : Int)) (.out (.inr e)))) (h2 : B (n : Int) = some (.out (.inl ()))) :
    loop B 0 = some (cond ((List.range n).all q) (.inl ()) (.inr e)) := by
  have key : ∀ k, k ≤ n → (∀ i, i < k → q i = true) → loop B (k : Int) = some (cond ((List.range n).all q) (.inl ()) (.inr e)) := by
    intro k hk hq
    generalize hd : n - k = d
    induction d generalizing k with
    | zero =>
      have : k = n := by omega
      subst this
      rw [loop_out h2]
      have : (List.range k).all q = true := by simpa using hq
      rw [this]; rfl
    | succ d ih =>
      have h1 := h k (by omega)
      cases hqk : q k with
      | true =>
        rw [hqk] at h1
        rw [loop_next h1]
        exact ih (k + 1) (by omega) (fun i hi => by
          by_cases e : i = k
          · subst e; exact hqk
          · exact hq i (by omega)) (by omega)
      | false =>
        rw [hqk] at h1
        rw [loop_out h1]
        have : (List.range n).all q = false := by
          rw [List.all_eq_false]
          exact ⟨k, by simp; omega, by simp [hqk]⟩
        rw [this]; rfl
  exact key 0 (Nat.zero_le _) (fun i hi => by omega)

theorem bne_dec {x y : Int} : (x != y) = !(decide (x = y)) := by
  by_cases h : x = y <;> simp [h]
theorem beq_dec {x y : Int} : (x == y) = decide (x = y) := by
  by_cases h : x = y <;> simp [h]
end Go.Proofs.YtpfijnklnljccaaDoor

namespace Go.Proofs.YtpfijnklnljccaaDoor
open Go
set_option linter.unusedVariables false
set_option linter.unusedSimpArgs false

/-- The program returns something, of which Q holds. -/
def Tot {α : Type} (x : O α) (Q : α → Prop) : Prop := ∃ v, x = some v ∧ Q v
section
variable {α β : Type} {Q : β → Prop}
theorem Tot.ret {v : β} (h : Q v) : Tot (some v) Q := ⟨v, rfl, h⟩
theorem Tot.mono {x : O β} {R : β → Prop} (h : Tot x Q) (hr : ∀ v, Q v → R v) : Tot x R := by
  obtain ⟨v, e, hq⟩ := h; exact ⟨v, e, hr v hq⟩
theorem Tot.bind {x : O α} {f : α → O β} {R : α → Prop} (h : Tot x R) (hf : ∀ v, R v → Tot (f v) Q) : Tot (x.bind f) Q := by
  obtain ⟨v, e, hr⟩ := h; rw [e]; exact hf v hr
theorem Tot.cond {b : Bool} {x y : O β} (h1 : b = true → Tot x Q) (h2 : b = false → Tot y Q) : Tot (cond b x y) Q := by
  cases b with
  | true => exact h1 rfl
  | false => exact h2 rfl
theorem Tot.condd {p : Prop} [Decidable p] {x y : O β} (h1 : p → Tot x Q) (h2 : ¬ p → Tot y Q) : Tot (_root_.cond (decide p) x y) Q :=
  Tot.cond (fun h => h1 (of_decide_eq_true h)) (fun h => h2 (of_decide_eq_false h))
theorem Tot.idx {n : Nat} {i : Int} {k : Nat → O β} (h : 0 ≤ i ∧ i < (n : Int)) (hk : ∀ j : Nat, i = (j : Int) → j < n → Tot (k j) Q) : Tot (idx n i k) Q := by
  rw [idx_of h]; exact hk _ (by omega) (by omega)
theorem Tot.need {p : Prop} {d : Decidable p} {k : O β} (h : p) (hk : Tot k Q) : Tot (@need β p d k) Q := by rw [need_of h]; exact hk
theorem Tot.sized {n : Int} {k : Nat → O β} (h : 0 ≤ n ∧ n ≤ 1073741824) (hk : ∀ j : Nat, n = (j : Int) → Tot (k j) Q) : Tot (sized n k) Q := by
  rw [sized_of h]; exact hk _ (by omega)
theorem Tot.cut {n : Nat} {i j : Int} {k : Nat → Nat → O β} (h : 0 ≤ i ∧ i ≤ j ∧ j ≤ (n : Int)) (hk : ∀ a b : Nat, i = (a : Int) → j = (b : Int) → a ≤ b → b ≤ n → Tot (k a b) Q) : Tot (cut n i j k) Q := by
  rw [cut_of h]; exact hk _ _ (by omega) (by omega) (by omega) (by omega)
theorem Tot.loop {σ : Type} {B : σ → O (Lp σ β)} {s : σ} (I : σ → Prop) (μ : σ → Nat)
    (h : ∀ s, I s → Tot (B s) fun c => match c with | .next s' => I s' ∧ μ s' < μ s | .out e => Q e) (h0 : I s) : Tot (loop B s) Q :=
  loop_inv I μ (fun s hs => by
    obtain ⟨c, e, hc⟩ := h s hs
    refine ⟨c, e, ?_⟩
    cases c <;> exact hc) h0
end
theorem Tot.get {α : Type} {x : O α} {v : α} (h : Tot x (· = v)) : x = some v := by
  obtain ⟨w, e, h⟩ := h; rw [e, h]

/-- A loop over the numbers below n, its state a function of how many are done. -/
theorem loop_to {σ ε : Type} {B : σ → O (Lp σ ε)} (f : Nat → σ) (n : Nat) {s : σ} {e : ε} (h0 : s = f 0) (hn : ∀ k, k < n → B (f k) = some (.next (f (k + 1)))) (he : B (f n) = some (.out e)) : loop B s = some e := by
  rw [h0]; exact loop_stop f n hn he
theorem w64_i {x : Int} (h : -9223372036854775808 ≤ x ∧ x ≤ 9223372036854775807) : w64 x = x := w64_in h.1 h.2
end Go.Proofs.YtpfijnklnljccaaDoor

namespace Go.Proofs.YtpfijnklnljccaaDoor
open Go
set_option linter.unusedVariables false
set_option linter.unusedSimpArgs false

def row1 (n : Nat) (g : Nat → Int) : List Int := (List.range n).map g
def tab (n : Nat) (g : Nat → Nat → Int) : List (List Int) := (List.range n).map fun i => row1 n (g i)
theorem row1_len {n : Nat} {g : Nat → Int} : (row1 n g).length = n := by simp [row1]
theorem tab_len {n : Nat} {g : Nat → Nat → Int} : (tab n g).length = n := by simp [tab]
theorem gx_range {n i : Nat} (h : i < n) : gx (List.range n) i = i := by rw [gx_eq (by simpa using h)]; simp
theorem row1_gx {n i : Nat} {g : Nat → Int} (h : i < n) : gx (row1 n g) i = g i := by
  unfold row1; rw [gx_of_map (by simpa using h), gx_range h]
theorem tab_gx {n i : Nat} {g : Nat → Nat → Int} (h : i < n) : gx (tab n g) i = row1 n (g i) := by
  unfold tab; rw [gx_of_map (f := fun i => row1 n (g i)) (by simpa using h), gx_range h]
theorem row1_ext {n : Nat} {g g' : Nat → Int} (h : ∀ i, i < n → g i = g' i) : row1 n g = row1 n g' := by
  unfold row1; apply List.map_congr_left; intro i hi; exact h i (by simpa using hi)
theorem tab_ext {n : Nat} {g g' : Nat → Nat → Int} (h : ∀ i j, i < n → j < n → g i j = g' i j) : tab n g = tab n g' := by
  unfold tab; apply List.map_congr_left; intro i hi; exact row1_ext fun j hj => h i j (by simpa using hi) hj
theorem row1_set {n i : Nat} {g : Nat → Int} {v : Int} (h : i < n) : (row1 n g).set i v = row1 n (fun k => if k = i then v else g k) := by
  apply gx_ext (by simp [row1_len])
  intro k hk
  rw [List.length_set, row1_len] at hk
  rw [gx_set (by rw [row1_len]; exact h), row1_gx hk, row1_gx hk]
  by_cases e : i = k
  · rw [if_pos e, if_pos e.symm]
  · rw [if_neg e, if_neg (fun h => e h.symm)]
theorem tab_set {n i j : Nat} {g : Nat → Nat → Int} {v : Int} (h : i < n) (hj : j < n) : (tab n g).set i ((gx (tab n g) i).set j v) = tab n (fun a b => if a = i ∧ b = j then v else g a b) := by
  apply gx_ext (by simp [tab_len])
  intro k hk
  rw [List.length_set, tab_len] at hk
  rw [gx_set (by rw [tab_len]; exact h), tab_gx hk, tab_gx h, row1_set hj]
  by_cases e : i = k
  · subst e
    rw [if_pos rfl, tab_gx hk]
    apply row1_ext; intro b hb
    by_cases e2 : b = j <;> simp [e2]
  · rw [if_neg e, tab_gx hk]
    apply row1_ext; intro b hb
    rw [if_neg (fun h => e h.1.symm)]
theorem row1_zero {n : Nat} : List.replicate n (0 : Int) = row1 n (fun _ => 0) := by
  apply gx_ext (by simp [row1_len]); intro k hk
  rw [List.length_replicate] at hk
  rw [gx_rep hk, row1_gx hk]

/-- A loop that goes on as long as something holds of every number. -/
theorem loop_allS {σ ε : Type} {B : σ → O (Lp σ ε)} (f : Nat → σ) (q : Nat → Bool) (n : Nat) {s : σ} (e1 e2 : ε) (h0 : s = f 0) (h : ∀ k, k < n → (∀ i, i < k → q i = true) → B (f k) = some (cond (q k) (.next (f (k + 1))) (.out e2))) (h2 : (∀ i, i < n → q i = true) → B (f n) = some (.out e1)) :
    loop B s = some (cond ((List.range n).all q) e1 e2) := by
  subst h0
  have key : ∀ k, k ≤ n → (∀ i, i < k → q i = true) → loop B (f k) = some (cond ((List.range n).all q) e1 e2) := by
    intro k hk hq
    generalize hd : n - k = d
    induction d generalizing k with
    | zero =>
      have : k = n := by omega
      subst this
      rw [loop_out (h2 hq)]
      have : (List.range k).all q = true := by simpa using hq
      rw [this]; rfl
    | succ d ih =>
      have h1 := h k (by omega) hq
      cases hqk : q k with
      | true =>
        rw [hqk] at h1
        rw [loop_next h1]
        exact ih (k + 1) (by omega) (fun i hi => by
          by_cases e : i = k
          · subst e; exact hqk
          · exact hq i (by omega)) (by omega)
      | false =>
        rw [hqk] at h1
        rw [loop_out h1]
        have : (List.range n).all q = false := by
          rw [List.all_eq_false]
          exact ⟨k, by simp; omega, by simp [hqk]⟩
        rw [this]; rfl
  exact key 0 (Nat.zero_le _) (fun i hi => by omega)
end Go.Proofs.YtpfijnklnljccaaDoor
