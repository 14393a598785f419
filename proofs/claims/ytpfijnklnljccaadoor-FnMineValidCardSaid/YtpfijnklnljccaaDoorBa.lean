/- Plain partial programs: sequence, choice, indices, loops; and small facts on lists and numbers; no condition. -/
import Derived.IntWalk
namespace Go.Proofs.YtpfijnklnljccaaDoor
open Go
set_option linter.unusedVariables false
set_option linter.unusedSimpArgs false

abbrev O (α : Type) := Option α
/-- What Go's int holds of a number. -/
def w64 (x : Int) : Int := IntKind.i64.wrap x
theorem w64_in {x : Int} (h1 : -9223372036854775808 ≤ x) (h2 : x ≤ 9223372036854775807) : w64 x = x := IntWalk.i64_in _ ⟨h1, h2⟩

/-! ### Lists of which the elements are told by numbers -/
def gx {α : Type} [Inhabited α] (l : List α) (k : Nat) : α := l.getD k default
section
variable {α : Type} [Inhabited α] {l m : List α} {k i j n : Nat} {x : α}
theorem gx_eq (h : k < l.length) : gx l k = l[k]'h := by simp [gx, h]
theorem gx_out (h : l.length ≤ k) : gx l k = default := by simp [gx, h]
theorem gx_map {β : Type} {f : α → List β} (h : i < l.length) : (l.map f)[i]? = some (f (gx l i)) := by
  rw [gx_eq h]; simp [h]
theorem gx_set (h : i < l.length) : gx (l.set i x) j = if i = j then x else gx l j := by
  unfold gx
  by_cases e : i = j
  · subst e; simp [h]
  · simp [e]
theorem gx_set_self (h : i < l.length) : gx (l.set i x) i = x := by rw [gx_set h, if_pos rfl]
theorem gx_set_ne (h : i ≠ j) : gx (l.set i x) j = gx l j := by unfold gx; simp [h]
theorem gx_ext (h : l.length = m.length) (h2 : ∀ k, k < l.length → gx l k = gx m k) : l = m := by
  apply List.ext_getElem h
  intro i h1 h3
  rw [← gx_eq h1, ← gx_eq h3]; exact h2 i h1
theorem gx_take (h : j < k) : gx (l.take k) j = gx l j := by
  unfold gx; simp [List.getElem?_take, h]
theorem gx_drop : gx (l.drop k) j = gx l (k + j) := by
  unfold gx; simp [List.getElem?_drop]
theorem gx_mem (h : k < l.length) : gx l k ∈ l := by rw [gx_eq h]; exact List.getElem_mem h
theorem gx_app1 (h : k < l.length) : gx (l ++ m) k = gx l k := by unfold gx; simp [List.getElem?_append_left h]
theorem gx_app2 : gx (l ++ [x]) l.length = x := by unfold gx; simp
theorem gx_app3 (h : l.length ≤ k) : gx (l ++ m) k = gx m (k - l.length) := by unfold gx; simp [List.getElem?_append_right h]
theorem gx_rep (h : k < n) : gx (List.replicate n x) k = x := by unfold gx; simp [h]
theorem gx_zero : gx (x :: l) 0 = x := rfl
theorem gx_succ : gx (x :: l) (k + 1) = gx l k := by simp [gx]
theorem take_gx (h : k < l.length) : l.take (k + 1) = l.take k ++ [gx l k] := by rw [gx_eq h]; exact List.take_succ_eq_append_getElem h
theorem mem_gx (h : x ∈ l) : ∃ k, k < l.length ∧ gx l k = x := by
  obtain ⟨k, hk, e⟩ := List.getElem_of_mem h
  exact ⟨k, hk, by rw [gx_eq hk, e]⟩
end
theorem gx_of_map {α β : Type} [Inhabited α] [Inhabited β] {f : α → β} {l : List α} {i : Nat} (h : i < l.length) : gx (l.map f) i = f (gx l i) := by
  rw [gx_eq (by simpa using h), gx_eq h]; simp
theorem map_set' {α β : Type} {f : α → β} {l : List α} {i : Nat} {x : α} {e : β} (h : f x = e) : (l.map f).set i e = (l.set i x).map f := by subst h; exact List.map_set.symm

/-! ### Partial programs -/
/-- An index is within. -/
def idx {β : Type} (n : Nat) (i : Int) (k : Nat → O β) : O β := if 0 ≤ i ∧ i < (n : Int) then k i.toNat else none
/-- A condition holds. -/
def need {β : Type} (p : Prop) [Decidable p] (k : O β) : O β := if p then k else none
/-- A size fits. -/
def sizeLim : Nat := 1073741824
def sized {β : Type} (n : Int) (k : Nat → O β) : O β := if 0 ≤ n ∧ n ≤ (sizeLim : Int) then k n.toNat else none
/-- Both bounds of a part are within. -/
def cut {β : Type} (n : Nat) (i j : Int) (k : Nat → Nat → O β) : O β := if 0 ≤ i ∧ i ≤ j ∧ j ≤ (n : Int) then k i.toNat j.toNat else none

section
variable {α β : Type} {r : β}
theorem e_idx {n : Nat} {i : Int} {k : Nat → O β} (h : idx n i k = some r) : ∃ j : Nat, i = (j : Int) ∧ j < n ∧ k j = some r := by
  unfold idx at h
  split at h
  · rename_i g; exact ⟨i.toNat, by omega, by omega, h⟩
  · cases h
theorem e_need {p : Prop} {d : Decidable p} {k : O β} (h : @need β p d k = some r) : p ∧ k = some r := by
  unfold need at h
  split at h
  · rename_i g; exact ⟨g, h⟩
  · cases h
theorem e_sized {n : Int} {k : Nat → O β} (h : sized n k = some r) : ∃ j : Nat, n = (j : Int) ∧ j ≤ 1073741824 ∧ k j = some r := by
  unfold sized sizeLim at h
  split at h
  · rename_i g; exact ⟨n.toNat, by omega, by omega, h⟩
  · cases h
theorem e_cut {n : Nat} {i j : Int} {k : Nat → Nat → O β} (h : cut n i j k = some r) : ∃ a b : Nat, i = (a : Int) ∧ j = (b : Int) ∧ a ≤ b ∧ b ≤ n ∧ k a b = some r := by
  unfold cut at h
  split at h
  · rename_i g; exact ⟨i.toNat, j.toNat, by omega, by omega, by omega, by omega, h⟩
  · cases h
theorem e_bind {x : O α} {k : α → O β} (h : Option.bind x k = some r) : ∃ v, x = some v ∧ k v = some r := by
  cases x with
  | none => cases h
  | some v => exact ⟨v, rfl, h⟩
theorem e_t {b : Bool} {x y : O β} (h : cond b x y = some r) (hb : b = true) : x = some r := by subst hb; exact h
theorem e_f {b : Bool} {x y : O β} (h : cond b x y = some r) (hb : b = false) : y = some r := by subst hb; exact h
theorem e_some {x : β} (h : some x = some r) : x = r := by cases h; rfl

theorem idx_at {n j : Nat} {k : Nat → O β} (h : j < n) : idx n (j : Int) k = k j := by
  unfold idx; rw [if_pos (by omega)]; simp
theorem idx_eq {n j : Nat} {i : Int} {k : Nat → O β} (e : i = (j : Int)) (h : j < n) : idx n i k = k j := by subst e; exact idx_at h
theorem idx_of {n : Nat} {i : Int} {k : Nat → O β} (h : 0 ≤ i ∧ i < (n : Int)) : idx n i k = k i.toNat := by
  unfold idx; rw [if_pos h]
theorem need_of {p : Prop} {d : Decidable p} {k : O β} (h : p) : @need β p d k = k := by unfold need; rw [if_pos h]
theorem sized_at {j : Nat} {k : Nat → O β} (h : j ≤ 1073741824) : sized (j : Int) k = k j := by
  unfold sized sizeLim; rw [if_pos (by omega)]; simp
theorem sized_of {n : Int} {k : Nat → O β} (h : 0 ≤ n ∧ n ≤ 1073741824) : sized n k = k n.toNat := by
  unfold sized sizeLim; rw [if_pos (by omega)]
theorem cut_at {n a b : Nat} {k : Nat → Nat → O β} (h1 : a ≤ b) (h2 : b ≤ n) : cut n (a : Int) (b : Int) k = k a b := by
  unfold cut; rw [if_pos (by omega)]; simp
theorem cut_of {n : Nat} {i j : Int} {k : Nat → Nat → O β} (h : 0 ≤ i ∧ i ≤ j ∧ j ≤ (n : Int)) : cut n i j k = k i.toNat j.toNat := by
  unfold cut; rw [if_pos h]
theorem cond_some {b : Bool} {x y : β} : cond b (some x) (some y) = some (cond b x y) := by cases b <;> rfl
end

/-! ### Loops -/
inductive Lp (σ ε : Type) where
  | next (s : σ)
  | out (e : ε)

section
variable {σ ε : Type}
def iter (B : σ → O (Lp σ ε)) : Nat → σ → O ε
  | 0, _ => none
  | n + 1, s => (B s).bind fun c => match c with
    | .next s' => iter B n s'
    | .out e => some e

theorem iter_mono {B : σ → O (Lp σ ε)} : ∀ {n m : Nat} {s : σ} {e : ε}, n ≤ m → iter B n s = some e → iter B m s = some e
  | 0, _, _, _, _, h => by cases h
  | n + 1, 0, _, _, hm, _ => by omega
  | n + 1, m + 1, s, e, hm, h => by
    unfold iter at h ⊢
    cases hb : B s with
    | none => rw [hb] at h; cases h
    | some c =>
      rw [hb] at h
      cases c with
      | next s' => exact iter_mono (by omega) h
      | out e' => exact h

open Classical in
/-- A loop: what comes out of it, if it ends. -/
noncomputable def loop (B : σ → O (Lp σ ε)) (s : σ) : O ε := if h : ∃ n e, iter B n s = some e then some h.choose_spec.choose else none

theorem loop_iter {B : σ → O (Lp σ ε)} {s : σ} {e : ε} (h : loop B s = some e) : ∃ n, iter B n s = some e := by
  unfold loop at h
  split at h
  · rename_i g
    cases h
    exact ⟨g.choose, g.choose_spec.choose_spec⟩
  · cases h

theorem iter_loop {B : σ → O (Lp σ ε)} {s : σ} {e : ε} {n : Nat} (h : iter B n s = some e) : loop B s = some e := by
  have g : ∃ n e, iter B n s = some e := ⟨n, e, h⟩
  cases hl : loop B s with
  | none => unfold loop at hl; rw [dif_pos g] at hl; cases hl
  | some e' =>
    obtain ⟨m, hm⟩ := loop_iter hl
    have h1 := iter_mono (Nat.le_max_left n m) h
    have h2 := iter_mono (Nat.le_max_right n m) hm
    rw [h1] at h2
    cases h2
    rfl

theorem loop_eq (B : σ → O (Lp σ ε)) (s : σ) : loop B s = (B s).bind fun c => match c with | .next s' => loop B s' | .out e => some e := by
  cases hb : B s with
  | none =>
    cases hl : loop B s with
    | none => rfl
    | some e =>
      obtain ⟨n, hn⟩ := loop_iter hl
      cases n with
      | zero => cases hn
      | succ n => unfold iter at hn; rw [hb] at hn; cases hn
  | some c =>
    simp only [Option.bind_some]
    cases c with
    | out e =>
      have h1 : iter B 1 s = some e := by unfold iter; rw [hb]; rfl
      exact iter_loop h1
    | next s' =>
      cases hl : loop B s' with
      | some e =>
        obtain ⟨n, hn⟩ := loop_iter hl
        have h1 : iter B (n + 1) s = some e := by unfold iter; rw [hb]; exact hn
        rw [iter_loop h1]; exact hl.symm
      | none =>
        cases hl2 : loop B s with
        | none => simp [hl]
        | some e =>
          obtain ⟨n, hn⟩ := loop_iter hl2
          cases n with
          | zero => cases hn
          | succ n =>
            unfold iter at hn; rw [hb] at hn
            rw [iter_loop hn] at hl
            cases hl

theorem loop_next {B : σ → O (Lp σ ε)} {s s' : σ} (h : B s = some (.next s')) : loop B s = loop B s' := by rw [loop_eq, h]; rfl
theorem loop_out {B : σ → O (Lp σ ε)} {s : σ} {e : ε} (h : B s = some (.out e)) : loop B s = some e := by rw [loop_eq, h]; rfl

/-- What holds at every head, and falls, leads out. -/
theorem loop_inv {B : σ → O (Lp σ ε)} (I : σ → Prop) (μ : σ → Nat) {Q : ε → Prop}
    (h : ∀ s, I s → ∃ c, B s = some c ∧ match c with | .next s' => I s' ∧ μ s' < μ s | .out e => Q e) : ∀ {s : σ}, I s → ∃ e, loop B s = some e ∧ Q e := by
  intro s
  generalize hm : μ s = m
  induction m using Nat.strongRecOn generalizing s with
  | _ m ih =>
    intro hi
    obtain ⟨c, hc, hq⟩ := h s hi
    cases c with
    | out e => exact ⟨e, loop_out hc, hq⟩
    | next s' =>
      obtain ⟨e, he, hqe⟩ := ih (μ s') (by subst hm; exact hq.2) rfl hq.1
      exact ⟨e, by rw [loop_next hc]; exact he, hqe⟩

/-- A loop of so many rounds, its states given one by one. -/
theorem loop_run {B : σ → O (Lp σ ε)} (f : Nat → σ) (n : Nat) {e : ε} (hn : ∀ k, k < n → B (f k) = some (.next (f (k + 1)))) (he : B (f n) = some (.out e)) : ∀ k, k ≤ n → loop B (f k) = some e := by
  intro k hk
  generalize hd : n - k = d
  induction d generalizing k with
  | zero => have : k = n := by omega
            subst this; exact loop_out he
  | succ d ih => rw [loop_next (hn k (by omega))]; exact ih (k + 1) (by omega) (by omega)
/-- The same, with a way out in one of the rounds. -/
theorem loop_stop {B : σ → O (Lp σ ε)} (f : Nat → σ) (n : Nat) {e : ε} (hn : ∀ k, k < n → B (f k) = some (.next (f (k + 1)))) (he : B (f n) = some (.out e)) : loop B (f 0) = some e :=
  loop_run f n hn he 0 (Nat.zero_le _)
end
end Go.Proofs.YtpfijnklnljccaaDoor
