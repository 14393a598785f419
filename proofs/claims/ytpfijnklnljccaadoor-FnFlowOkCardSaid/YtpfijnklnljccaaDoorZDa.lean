/- Plain partial programs, rules by which code follows them, and the data of the program; no condition. -/
import Derived.IntWalk
import Derived.Test.YtpfijnklnljccaaDoorZKa
namespace Go.Proofs.YtpfijnklnljccaaDoor
open Go
set_option linter.unusedVariables false
set_option linter.unusedSimpArgs false

abbrev O (α : Type) := Option α
/-- What Go's int holds of a number. -/
def w64 (x : Int) : Int := IntKind.i64.wrap x
theorem w64_in {x : Int} (h1 : -9223372036854775808 ≤ x) (h2 : x ≤ 9223372036854775807) : w64 x = x := IntWalk.i64_in _ ⟨h1, h2⟩

def gx {α : Type} [Inhabited α] (l : List α) (k : Nat) : α := l.getD k default
section
variable {α : Type} [Inhabited α] {l m : List α} {k i j n : Nat} {x : α}
theorem gx_eq (h : k < l.length) : gx l k = l[k]'h := by simp [gx, h]
theorem gx_map {β : Type} {f : α → List β} (h : i < l.length) : (l.map f)[i]? = some (f (gx l i)) := by
  rw [gx_eq h]; simp [h]
theorem gx_set (h : i < l.length) : gx (l.set i x) j = if i = j then x else gx l j := by
  unfold gx
  by_cases e : i = j
  · subst e; simp [h]
  · simp [e]
theorem gx_set_self (h : i < l.length) : gx (l.set i x) i = x := by rw [gx_set h, if_pos rfl]
theorem gx_ext (h : l.length = m.length) (h2 : ∀ k, k < l.length → gx l k = gx m k) : l = m := by
  apply List.ext_getElem h
  intro i h1 h3
  rw [← gx_eq h1, ← gx_eq h3]; exact h2 i h1
theorem gx_take (h : j < k) : gx (l.take k) j = gx l j := by
  unfold gx; simp [List.getElem?_take, h]
theorem gx_drop : gx (l.drop k) j = gx l (k + j) := by
  unfold gx; simp [List.getElem?_drop]
theorem gx_mem (h : k < l.length) : gx l k ∈ l := by rw [gx_eq h]; exact List.getElem_mem h
theorem gx_app1 (h : k < l.length) : gx (l ++ m) k = gx l k := by unfold gx; simp [List.getElem?_append_left h]
theorem gx_app3 (h : l.length ≤ k) : gx (l ++ m) k = gx m (k - l.length) := by unfold gx; simp [List.getElem?_append_right h]
theorem gx_rep (h : k < n) : gx (List.replicate n x) k = x := by unfold gx; simp [h]
theorem gx_zero : gx (x :: l) 0 = x := rfl
theorem gx_succ : gx (x :: l) (k + 1) = gx l k := by simp [gx]
theorem take_gx (h : k < l.length) : l.take (k + 1) = l.take k ++ [gx l k] := by rw [gx_eq h]; exact List.take_succ_eq_append_getElem h
theorem mem_gx (h : x ∈ l) : ∃ k, k < l.length ∧ gx l k = x := by
  obtain ⟨k, hk, e⟩ := List.getElem_of_mem h
  exact ⟨k, hk, by rw [gx_eq hk, e]⟩
end
theorem gx_of_map {α β : Type} [Inhabited α] [Inhabited β] {f : α → β} {l : List α} {i : Nat} (h : i < l.length) : gx (l.map f) i = f (gx l i) := by
  rw [gx_eq (by simpa using h), gx_eq h]; simp
theorem map_set' {α β : Type} {f : α → β} {l : List α} {i : Nat} {x : α} {e : β} (h : f x = e) : (l.map f).set i e = (l.set i x).map f := by subst h; exact List.map_set.symm

/-- An index is within. -/
def idx {β : Type} (n : Nat) (i : Int) (k : Nat → O β) : O β := if 0 ≤ i ∧ i < (n : Int) then k i.toNat else none
/-- A condition holds. -/
def need {β : Type} (p : Prop) [Decidable p] (k : O β) : O β := if p then k else none
/-- A size fits. -/
def sizeLim : Nat := 1073741824
def sized {β : Type} (n : Int) (k : Nat → O β) : O β := if 0 ≤ n ∧ n ≤ (sizeLim : Int) then k n.toNat else none
/-- Both bounds of a part are within. -/
def cut {β : Type} (n : Nat) (i j : Int) (k : Nat → Nat → O β) : O β := if 0 ≤ i ∧ i ≤ j ∧ j ≤ (n : Int) then k i.toNat j.toNat else none

section
variable {α β : Type} {r : β}
theorem e_idx {n : Nat} {i : Int} {k : Nat → O β} (h : idx n i k = some r) : ∃ j : Nat, i = (j : Int) ∧ j < n ∧ k j = some r := by
  unfold idx at h
  split at h
  · rename_i g; exact ⟨i.toNat, by omega, by omega, h⟩
  · cases h
theorem e_need {p : Prop} {d : Decidable p} {k : O β} (h : @need β p d k = some r) : p ∧ k = some r := by
  unfold need at h
  split at h
  · rename_i g; exact ⟨g, h⟩
  · cases h
theorem e_sized {n : Int} {k : Nat → O β} (h : sized n k = some r) : ∃ j : Nat, n = (j : Int) ∧ j ≤ 1073741824 ∧ k j = some r := by
  unfold sized sizeLim at h
  split at h
  · rename_i g; exact ⟨n.toNat, by omega, by omega, h⟩
  · cases h
theorem e_cut {n : Nat} {i j : Int} {k : Nat → Nat → O β} (h : cut n i j k = some r) : ∃ a b : Nat, i = (a : Int) ∧ j = (b : Int) ∧ a ≤ b ∧ b ≤ n ∧ k a b = some r := by
  unfold cut at h
  split at h
  · rename_i g; exact ⟨i.toNat, j.toNat, by omega, by omega, by omega, by omega, h⟩
  · cases h
theorem e_bind {x : O α} {k : α → O β} (h : Option.bind x k = some r) : ∃ v, x = some v ∧ k v = some r := by
  cases x with
  | none => cases h
  | some v => exact ⟨v, rfl, h⟩
theorem e_t {b : Bool} {x y : O β} (h : cond b x y = some r) (hb : b = true) : x = some r := by subst hb; exact h
theorem e_f {b : Bool} {x y : O β} (h : cond b x y = some r) (hb : b = false) : y = some r := by subst hb; exact h
theorem e_some {x : β} (h : some x = some r) : x = r := by cases h; rfl

theorem idx_at {n j : Nat} {k : Nat → O β} (h : j < n) : idx n (j : Int) k = k j := by
  unfold idx; rw [if_pos (by omega)]; simp
theorem idx_eq {n j : Nat} {i : Int} {k : Nat → O β} (e : i = (j : Int)) (h : j < n) : idx n i k = k j := by subst e; exact idx_at h
theorem idx_of {n : Nat} {i : Int} {k : Nat → O β} (h : 0 ≤ i ∧ i < (n : Int)) : idx n i k = k i.toNat := by
  unfold idx; rw [if_pos h]
theorem need_of {p : Prop} {d : Decidable p} {k : O β} (h : p) : @need β p d k = k := by unfold need; rw [if_pos h]
theorem sized_at {j : Nat} {k : Nat → O β} (h : j ≤ 1073741824) : sized (j : Int) k = k j := by
  unfold sized sizeLim; rw [if_pos (by omega)]; simp
theorem sized_of {n : Int} {k : Nat → O β} (h : 0 ≤ n ∧ n ≤ 1073741824) : sized n k = k n.toNat := by
  unfold sized sizeLim; rw [if_pos (by omega)]
theorem cut_at {n a b : Nat} {k : Nat → Nat → O β} (h1 : a ≤ b) (h2 : b ≤ n) : cut n (a : Int) (b : Int) k = k a b := by
  unfold cut; rw [if_pos (by omega)]; simp
theorem cut_of {n : Nat} {i j : Int} {k : Nat → Nat → O β} (h : 0 ≤ i ∧ i ≤ j ∧ j ≤ (n : Int)) : cut n i j k = k i.toNat j.toNat := by
  unfold cut; rw [if_pos h]
end

inductive Lp (σ ε : Type) where
  | next (s : σ)
  | out (e : ε)

section
variable {σ ε : Type}
def iter (B : σ → O (Lp σ ε)) : Nat → σ → O ε
  | 0, _ => none
  | n + 1, s => (B s).bind fun c => match c with
    | .next s' => iter B n s'
    | .out e => some e

theorem iter_mono {B : σ → O (Lp σ ε)} : ∀ {n m : Nat} {s : σ} {e : ε}, n ≤ m → iter B n s = some e → iter B m s = some e
  | 0, _, _, _, _, h => by cases h
  | n + 1, 0, _, _, hm, _ => by omega
  | n + 1, m + 1, s, e, hm, h => by
    unfold iter at h ⊢
    cases hb : B s with
    | none => rw [hb] at h; cases h
    | some c =>
      rw [hb] at h
      cases c with
      | next s' => exact iter_mono (by omega) h
      | out e' => exact h

open Classical in
/-- A loop: what comes out of it, if it ends. -/
noncomputable def loop (B : σ → O (Lp σ ε)) (s : σ) : O ε := if h : ∃ n e, iter B n s = some e then some h.choose_spec.choose else none

theorem loop_iter {B : σ → O (Lp σ ε)} {s : σ} {e : ε} (h : loop B s = some e) : ∃ n, iter B n s = some e := by
  unfold loop at h
  split at h
  · rename_i g
    cases h
    exact ⟨g.choose, g.choose_spec.choose_spec⟩
  · cases h

theorem iter_loop {B : σ → O (Lp σ ε)} {s : σ} {e : ε} {n : Nat} (h : iter B n s = some e) : loop B s = some e := by
  have g : ∃ n e, iter B n s = some e := ⟨n, e, h⟩
  cases hl : loop B s with
  | none => unfold loop at hl; rw [dif_pos g] at hl; cases hl
  | some e' =>
    obtain ⟨m, hm⟩ := loop_iter hl
    have h1 := iter_mono (Nat.le_max_left n m) h
    have h2 := iter_mono (Nat.le_max_right n m) hm
    rw [h1] at h2
    cases h2
    rfl

theorem loop_eq (B : σ → O (Lp σ ε)) (s : σ) : loop B s = (B s).bind fun c => match c with | .next s' => loop B s' | .out e => some e := by
  cases hb : B s with
  | none =>
    cases hl : loop B s with
    | none => rfl
    | some e =>
      obtain ⟨n, hn⟩ := loop_iter hl
      cases n with
      | zero => cases hn
      | succ n => unfold iter at hn; rw [hb] at hn; cases hn
  | some c =>
    simp only [Option.bind_some]
    cases c with
    | out e =>
      have h1 : iter B 1 s = some e := by unfold iter; rw [hb]; rfl
      exact iter_loop h1
    | next s' =>
      cases hl : loop B s' with
      | some e =>
        obtain ⟨n, hn⟩ := loop_iter hl
        have h1 : iter B (n + 1) s = some e := by unfold iter; rw [hb]; exact hn
        rw [iter_loop h1]; exact hl.symm
      | none =>
        cases hl2 : loop B s with
        | none => simp [hl]
        | some e =>
          obtain ⟨n, hn⟩ := loop_iter hl2
          cases n with
          | zero => cases hn
          | succ n =>
            unfold iter at hn; rw [hb] at hn
            rw [iter_loop hn] at hl
            cases hl

theorem loop_next {B : σ → O (Lp σ ε)} {s s' : σ} (h : B s = some (.next s')) : loop B s = loop B s' := by rw [loop_eq, h]; rfl
theorem loop_out {B : σ → O (Lp σ ε)} {s : σ} {e : ε} (h : B s = some (.out e)) : loop B s = some e := by rw [loop_eq, h]; rfl

/-- What holds at every head, and falls, leads out. -/
theorem loop_inv {B : σ → O (Lp σ ε)} (I : σ → Prop) (μ : σ → Nat) {Q : ε → Prop}
    (h : ∀ s, I s → ∃ c, B s = some c ∧ match c with | .next s' => I s' ∧ μ s' < μ s | .out e => Q e) : ∀ {s : σ}, I s → ∃ e, loop B s = some e ∧ Q e := by
  intro s
  generalize hm : μ s = m
  induction m using Nat.strongRecOn generalizing s with
  | _ m ih =>
    intro hi
    obtain ⟨c, hc, hq⟩ := h s hi
    cases c with
    | out e => exact ⟨e, loop_out hc, hq⟩
    | next s' =>
      obtain ⟨e, he, hqe⟩ := ih (μ s') (by subst hm; exact hq.2) rfl hq.1
      exact ⟨e, by rw [loop_next hc]; exact he, hqe⟩

/-- A loop of so many rounds, its states given one by one. -/
theorem loop_run {B : σ → O (Lp σ ε)} (f : Nat → σ) (n : Nat) {e : ε} (hn : ∀ k, k < n → B (f k) = some (.next (f (k + 1)))) (he : B (f n) = some (.out e)) : ∀ k, k ≤ n → loop B (f k) = some e := by
  intro k hk
  generalize hd : n - k = d
  induction d generalizing k with
  | zero => have : k = n := by omega
            subst this; exact loop_out he
  | succ d ih => rw [loop_next (hn k (by omega))]; exact ih (k + 1) (by omega) (by omega)
/-- The same, with a way out in one of the rounds. -/
theorem loop_stop {B : σ → O (Lp σ ε)} (f : Nat → σ) (n : Nat) {e : ε} (hn : ∀ k, k < n → B (f k) = some (.next (f (k + 1)))) (he : B (f n) = some (.out e)) : loop B (f 0) = some e :=
  loop_run f n hn he 0 (Nat.zero_le _)
end
end Go.Proofs.YtpfijnklnljccaaDoor

namespace Go.Proofs.YtpfijnklnljccaaDoor
open Go
set_option linter.unusedVariables false
set_option linter.unusedSimpArgs false

def encI (v : Int) : List Value := [.int .i64 v]
structure Row where
  a : Option Addr
  c : Nat
  l : List Int
deriving Inhabited
def encRow (r : Row) : List Value := [.slice r.a r.l.length r.c]
def rowC (r : Row) : Chunk := ⟨.slice r.a r.l.length r.c, 1, r.l.map encI⟩
def rowsC (R : List Row) : List Chunk := R.map rowC
def Row.with (r : Row) (l : List Int) : Row := ⟨r.a, r.c, l⟩
def nilRow : Row := ⟨none, 0, []⟩
/-- The numbers of the rows. -/
def nums (R : List Row) : List (List Int) := R.map (·.l)
theorem nums_len {R : List Row} : (nums R).length = R.length := by simp [nums]
theorem nums_gx {R : List Row} {i : Nat} (h : i < R.length) : gx (nums R) i = (gx R i).l := by
  rw [gx_eq (by rw [nums_len]; exact h), gx_eq h]; simp [nums]
theorem nums_set {R : List Row} {i : Nat} {r : Row} : nums (R.set i r) = (nums R).set i r.l := by simp [nums, List.map_set]
theorem nums_rep {n : Nat} : nums (List.replicate n nilRow) = List.replicate n [] := by simp [nums, nilRow]
theorem heads_set {R : List Row} {i : Nat} {l : List Int} (h : i < R.length) (hl : l.length = (gx R i).l.length) : (R.set i ((gx R i).with l)).map encRow = R.map encRow := by
  apply List.ext_getElem?
  intro j
  rw [List.getElem?_map, List.getElem?_map, List.getElem?_set]
  split
  · rename_i e; subst e
    simp only [gx_eq h] at hl
    simp [h, gx_eq h, Row.with, encRow, hl]
  · rfl

section
variable {c a : Chunk} {l s r t : List Chunk}
theorem mh : c ∈ c :: l := List.Mem.head _
theorem mt (h : c ∈ l) : c ∈ a :: l := List.Mem.tail _ h
theorem ms (h : c ∈ l) : c ∈ s ++ l := List.mem_append_right _ h
theorem mas (h : c ∈ s ++ (t ++ r)) : c ∈ (s ++ t) ++ r := by rw [List.append_assoc]; exact h
theorem mr {R : List Row} {m : List (List Int)} {i : Nat} (hm : nums R = m) (h : i < m.length) : (⟨.slice (gx R i).a (gx m i).length (gx R i).c, 1, (gx m i).map encI⟩ : Chunk) ∈ rowsC R ++ r := by
  subst hm
  rw [nums_len] at h
  rw [nums_gx h]
  exact List.mem_append_left _ (List.mem_map.2 ⟨gx R i, gx_mem h, rfl⟩)
theorem mr0 {R : List Row} {m : List (List Int)} {i : Nat} (hm : nums R = m) (h : i < m.length) : (⟨.slice (gx R i).a (gx m i).length (gx R i).c, 1, (gx m i).map encI⟩ : Chunk) ∈ rowsC R := by
  have := mr (r := []) hm h
  rwa [List.append_nil] at this
theorem Pick.seg (h : Pick r c t) : Pick (s ++ r) c (s ++ t) := by
  induction s with
  | nil => exact h
  | cons a s ih => exact .there ih
theorem Upd.seg {d : Chunk} (h : Upd r c d t) : Upd (s ++ r) c d (s ++ t) := by
  induction s with
  | nil => exact h
  | cons a s ih => exact .there ih
end

/-- A whole segment is taken out. -/
inductive PickSeg : List Chunk → List Chunk → List Chunk → Prop
  | here {s r : List Chunk} : PickSeg (s ++ r) s r
  | there {a : Chunk} {r s t : List Chunk} : PickSeg r s t → PickSeg (a :: r) s (a :: t)
  | seg {b r s t : List Chunk} : PickSeg r s t → PickSeg (b ++ r) s (b ++ t)
theorem PickSeg.all {s : List Chunk} : PickSeg s s [] := by
  have h := PickSeg.here (s := s) (r := [])
  rwa [List.append_nil] at h
theorem PickSeg.perm {l s r : List Chunk} (h : PickSeg l s r) : l.Perm (s ++ r) := by
  induction h with
  | here => exact .refl _
  | there _ ih => exact (ih.cons _).trans List.perm_middle.symm
  | @seg b r s t _ ih =>
    refine (ih.append_left b).trans ?_
    rw [← List.append_assoc, ← List.append_assoc]
    exact List.perm_append_comm.append_right t
theorem Sub.seg {l s r c : List Chunk} (h : PickSeg l s r) (g : Sub c r) : Sub (s ++ c) l := by
  obtain ⟨x, hx⟩ := g
  exact ⟨x, (h.perm.trans (hx.append_left s)).trans (by rw [List.append_assoc])⟩
theorem Sub.seg0 {l s r : List Chunk} (h : PickSeg l s r) : Sub s l := by
  have := Sub.seg h (Sub.nil r)
  rwa [List.append_nil] at this
theorem Sub.assoc {a b c d : List Chunk} (h : Sub (a ++ (b ++ c)) d) : Sub ((a ++ b) ++ c) d := by rw [List.append_assoc]; exact h
theorem Views.seg {l s c : List Chunk} (h : ∀ x ∈ s, x ∈ l) (g : Views l c) : Views l (s ++ c) := by
  intro x hx
  rcases List.mem_append.1 hx with h1 | h1
  · exact ⟨x, h x h1, View.refl x⟩
  · exact g x h1
theorem Views.seg0 {l s : List Chunk} (h : ∀ x ∈ s, x ∈ l) : Views l s := fun x hx => ⟨x, h x hx, View.refl x⟩
theorem sub_here {s r : List Chunk} : ∀ x ∈ s, x ∈ s ++ r := fun _ h => List.mem_append_left _ h
theorem sub_self {s : List Chunk} : ∀ x ∈ s, x ∈ s := fun _ h => h
theorem sub_there {s r : List Chunk} {a : Chunk} (h : ∀ x ∈ s, x ∈ r) : ∀ x ∈ s, x ∈ a :: r := fun x hx => List.mem_cons_of_mem _ (h x hx)
theorem sub_seg {s r b : List Chunk} (h : ∀ x ∈ s, x ∈ r) : ∀ x ∈ s, x ∈ b ++ r := fun x hx => List.mem_append_right _ (h x hx)
theorem sub_assoc {s a b r : List Chunk} (h : ∀ x ∈ s, x ∈ a ++ (b ++ r)) : ∀ x ∈ s, x ∈ (a ++ b) ++ r := fun x hx => by rw [List.append_assoc]; exact h x hx
theorem perm_mat {c1 r rest : List Chunk} {R : List Row} {c : Chunk} (hp : Pick c1 c r) (hs : PickSeg r (rowsC R) rest) : c1.Perm ((c :: rowsC R) ++ rest) := hp.perm.trans (hs.perm.cons c)
theorem perm_cons2 {c1 r rest fp : List Chunk} {c : Chunk} (hp : Pick c1 c r) (g : r.Perm (fp ++ rest)) : c1.Perm ((c :: fp) ++ rest) := perm_cons hp g

theorem rows_pick : ∀ {R : List Row} {i : Nat} (_ : i < R.length), (rowsC R).Perm (rowC (gx R i) :: rowsC (R.eraseIdx i))
  | [], _, h => by simp at h
  | r :: R, 0, _ => .refl _
  | r :: R, i + 1, h => ((rows_pick (R := R) (i := i) (by simpa using h)).cons _).trans (.swap _ _ _)
theorem rows_set : ∀ {R : List Row} {i : Nat} {q : Row} (_ : i < R.length), (rowsC (R.set i q)).Perm (rowC q :: rowsC (R.eraseIdx i))
  | [], _, _, h => by simp at h
  | r :: R, 0, _, _ => .refl _
  | r :: R, i + 1, q, h => ((rows_set (R := R) (i := i) (q := q) (by simpa using h)).cons _).trans (.swap _ _ _)

/-- The rows of a slice of slices are others: its own chunk and its segment. -/
inductive RowU (h : Value) (R R' : List Row) : List Chunk → List Chunk → Prop
  | outer {l l' : List Chunk} : PickSeg l (rowsC R) l' → RowU h R R' (⟨h, 1, R.map encRow⟩ :: l) (⟨h, 1, R'.map encRow⟩ :: (rowsC R' ++ l'))
  | there {a : Chunk} {l l' : List Chunk} : RowU h R R' l l' → RowU h R R' (a :: l) (a :: l')
  | seg {s l l' : List Chunk} : RowU h R R' l l' → RowU h R R' (s ++ l) (s ++ l')
theorem RowU.perm {h : Value} {R R' : List Row} {l l' : List Chunk} (u : RowU h R R' l l') : ∃ s, l.Perm (⟨h, 1, R.map encRow⟩ :: (rowsC R ++ s)) ∧ l'.Perm (⟨h, 1, R'.map encRow⟩ :: (rowsC R' ++ s)) := by
  induction u with
  | outer p => exact ⟨_, p.perm.cons _, .refl _⟩
  | @there a l l' _ ih =>
    obtain ⟨s, h1, h2⟩ := ih
    exact ⟨a :: s, ((h1.cons _).trans (.swap _ _ _)).trans (List.perm_middle.symm.cons _), ((h2.cons _).trans (.swap _ _ _)).trans (List.perm_middle.symm.cons _)⟩
  | @seg b l l' _ ih =>
    obtain ⟨s, h1, h2⟩ := ih
    refine ⟨b ++ s, ?_, ?_⟩
    · refine (h1.append_left b).trans (List.perm_middle.trans (.cons _ ?_))
      rw [← List.append_assoc, ← List.append_assoc]
      exact List.perm_append_comm.append_right s
    · refine (h2.append_left b).trans (List.perm_middle.trans (.cons _ ?_))
      rw [← List.append_assoc, ← List.append_assoc]
      exact List.perm_append_comm.append_right s
theorem RowU.mem {h : Value} {R R' : List Row} {l l' : List Chunk} (u : RowU h R R' l l') : (⟨h, 1, R.map encRow⟩ : Chunk) ∈ l := by
  obtain ⟨s, h1, _⟩ := u.perm
  exact h1.symm.subset List.mem_cons_self

inductive RowF (h : Value) (R : List Row) : List Chunk → (List Row → List Chunk) → Prop
  | outer {l l' : List Chunk} : PickSeg l (rowsC R) l' → RowF h R (⟨h, 1, R.map encRow⟩ :: l) (fun R' => ⟨h, 1, R'.map encRow⟩ :: (rowsC R' ++ l'))
  | there {a : Chunk} {l : List Chunk} {F : List Row → List Chunk} : RowF h R l F → RowF h R (a :: l) (fun R' => a :: F R')
  | seg {s l : List Chunk} {F : List Row → List Chunk} : RowF h R l F → RowF h R (s ++ l) (fun R' => s ++ F R')
theorem RowF.row {h : Value} {R : List Row} {l : List Chunk} {F : List Row → List Chunk} (u : RowF h R l F) (R' : List Row) : RowU h R R' l (F R') := by
  induction u with
  | outer p => exact .outer p
  | there _ ih => exact .there ih
  | seg _ ih => exact .seg ih

theorem St.perm {w : World} {ro c1 c2 : List Chunk} (h : St w ro c1) (p : c1.Perm c2) : St w ro c2 := h.sub ⟨[], by simpa using p⟩
theorem Ext.perm {w w' : World} {c0 c1 c2 : List Chunk} (h : Ext w c0 w' c1) (p : c1.Perm c2) : Ext w c0 w' c2 := h.sub ⟨[], by simpa using p⟩
/-- The chunks from which one starts may be spelled otherwise. -/
theorem Ext.perm0 {w w' : World} {c0 c1 c2 : List Chunk} (h : Ext w c0 w' c2) (p : c0.Perm c1) : Ext w c1 w' c2 :=
  ⟨h.size, fun b hb hn => h.keep b hb (fun c hc => hn c (p.subset hc)), fun c hc b hb hlt => by
    obtain ⟨e, he, heb⟩ := h.from_ c hc b hb hlt
    exact ⟨e, p.subset he, heb⟩, h.env⟩

section
variable {P : Program} {N : Nat} {ro ch ch' : List Chunk} {o : Oper} {sl : Slots} {Rk : KPred}
/-- A step in a list of chunks is one in any that has the same chunks. -/
theorem opk_perm {c1 : List Chunk} (p : ch.Perm c1) (h : OpK P N ro o sl c1 Rk) : OpK P N ro o sl ch Rk := by
  intro a w hk hs K Q hK
  exact h a w hk (hs.perm p) K Q fun a' w' sl' ch' hR hk' hs' he => hK a' w' sl' ch' hR hk' hs' (he.perm0 p.symm)
/-- One number of a row. -/
theorem s_row {t : TypeId} {x y : Operand} {h : Value} {R : List Row} {m : List (List Int)} {i j : Nat} {v : Int} {F : List Row → List Chunk} (hi : i < m.length) (hj : j < (gx m i).length) (hm : nums R = m) (hsz : ∀ w, (sizeOf t).run P w = .ok 1 w)
    (hR : ∀ R', nums R' = m.set i ((gx m i).set j v) → Rk (putS o.dst undef sl) (F R'))
    (ho : o.op = .store t x y := by rfl) (hx : kev N sl x = some (adr (.slice (gx R i).a (gx m i).length (gx R i).c) 1 j 0) := by rfl) (hy : kev N sl y = some (.int .i64 v) := by rfl) (hu : RowF h R ch F := by repeat (first | exact RowF.outer (by repeat (first | exact PickSeg.here | exact PickSeg.all | apply PickSeg.there | apply PickSeg.seg)) | apply RowF.there | apply RowF.seg)) : OpK P N ro o sl ch Rk := by
  subst hm
  have hi' : i < R.length := by rwa [nums_len] at hi
  rw [nums_gx hi'] at hR hj hx
  obtain ⟨s', h1, h2⟩ := (hu.row (R.set i ((gx R i).with ((gx R i).l.set j v)))).perm
  have hR' := hR (R.set i ((gx R i).with ((gx R i).l.set j v))) (by rw [nums_set]; rfl)
  rw [heads_set hi' (by simp)] at h2
  have p1 : ch.Perm (rowC (gx R i) :: (⟨h, 1, R.map encRow⟩ :: (rowsC (R.eraseIdx i) ++ s'))) :=
    h1.trans ((((rows_pick hi').append_right s').cons _).trans (.swap _ _ _))
  have p2 : (F (R.set i ((gx R i).with ((gx R i).l.set j v)))).Perm (rowC ((gx R i).with ((gx R i).l.set j v)) :: (⟨h, 1, R.map encRow⟩ :: (rowsC (R.eraseIdx i) ++ s'))) :=
    h2.trans ((((rows_set hi').append_right s').cons _).trans (.swap _ _ _))
  refine opk_perm p1 ?_
  intro a w hk hs K Q hK
  have hu' : Upd (rowC (gx R i) :: (⟨h, 1, R.map encRow⟩ :: (rowsC (R.eraseIdx i) ++ s'))) ⟨.slice (gx R i).a (gx R i).l.length (gx R i).c, 1, (gx R i).l.map encI⟩ ⟨.slice (gx R i).a (gx R i).l.length (gx R i).c, 1, ((gx R i).l.map encI).set j ((encI (gx (gx R i).l j)).set 0 (.int .i64 v))⟩
      (rowC ((gx R i).with ((gx R i).l.set j v)) :: (⟨h, 1, R.map encRow⟩ :: (rowsC (R.eraseIdx i) ++ s'))) := by
    have e : ((gx R i).l.map encI).set j ((encI (gx (gx R i).l j)).set 0 (.int .i64 v)) = ((gx R i).l.set j v).map encI := map_set' rfl
    have e2 : rowC ((gx R i).with ((gx R i).l.set j v)) = ⟨.slice (gx R i).a (gx R i).l.length (gx R i).c, 1, ((gx R i).l.set j v).map encI⟩ := by simp [rowC, Row.with]
    rw [e, e2]; exact .here
  refine opk_store (ro := ro) (R := fun s c => s = putS o.dst undef sl ∧ c = (rowC ((gx R i).with ((gx R i).l.set j v)) :: (⟨h, 1, R.map encRow⟩ :: (rowsC (R.eraseIdx i) ++ s')))) ho hx hy hsz rfl hu' (gx_map hj) (by decide) ⟨rfl, rfl⟩ a w hk hs K Q ?_
  rintro a' w' _ _ ⟨rfl, rfl⟩ hk' hs' he
  exact hK a' w' _ _ hR' hk' (hs'.perm p2.symm) (he.perm p2.symm)

/-- A row is replaced by a list of the call's own. -/
theorem s_setrow {t : TypeId} {x y : Operand} {a : Option Addr} {n c : Nat} {ra : Option Addr} {rn rc : Nat} {l : List Int} {R : List Row} {m : List (List Int)} {i : Nat} {c1 : List Chunk} {F : List Row → List Chunk} (hi : i < n) (hm : nums R = m) (hsz : ∀ w, (sizeOf t).run P w = .ok 1 w)
    (hR : ∀ R', nums R' = m.set i l → Rk (putS o.dst undef sl) (F R'))
    (ho : o.op = .store t x y := by rfl) (hx : kev N sl x = some (adr (.slice a n c) 1 i 0) := by rfl) (hy : kev N sl y = some (.slice ra rn rc) := by rfl) (hp : Pick ch ⟨.slice ra rn rc, 1, l.map encI⟩ c1 := by repeat (first | exact Pick.here | apply Pick.there | apply Pick.seg)) (hu : RowF (.slice a n c) R c1 F := by repeat (first | exact RowF.outer (by repeat (first | exact PickSeg.here | exact PickSeg.all | apply PickSeg.there | apply PickSeg.seg)) | apply RowF.there | apply RowF.seg)) : OpK P N ro o sl ch Rk := by
  subst hm
  have hR' := hR (R.set i ⟨ra, rc, l⟩) (by rw [nums_set])
  obtain ⟨s, h1, h2⟩ := (hu.row (R.set i ⟨ra, rc, l⟩)).perm
  intro ac w hk hs K Q hK
  have hrn := slice_len (hs.wok _ hp.mem)
  rw [List.length_map] at hrn
  subst hrn
  have p1 : ch.Perm (⟨.slice a n c, 1, R.map encRow⟩ :: (rowC ⟨ra, rc, l⟩ :: (rowsC R ++ s))) := (hp.perm.trans (h1.cons _)).trans (.swap _ _ _)
  revert ac w K Q
  refine opk_perm p1 ?_
  intro ac w hk hs K Q hK
  have hl := slice_len (hs.wok _ List.mem_cons_self)
  rw [List.length_map] at hl
  have hi' : i < R.length := by omega
  have hu' : Upd (⟨.slice a n c, 1, R.map encRow⟩ :: (rowC ⟨ra, rc, l⟩ :: (rowsC R ++ s))) ⟨.slice a n c, 1, R.map encRow⟩ ⟨.slice a n c, 1, (R.map encRow).set i ((encRow (gx R i)).set 0 (.slice ra l.length rc))⟩
      (⟨.slice a n c, 1, (R.set i ⟨ra, rc, l⟩).map encRow⟩ :: (rowC ⟨ra, rc, l⟩ :: (rowsC R ++ s))) := by
    have e : (R.map encRow).set i ((encRow (gx R i)).set 0 (.slice ra l.length rc)) = (R.set i (⟨ra, rc, l⟩ : Row)).map encRow := map_set' rfl
    rw [e]; exact .here
  have hsub : Sub (F (R.set i ⟨ra, rc, l⟩)) (⟨.slice a n c, 1, (R.set i ⟨ra, rc, l⟩).map encRow⟩ :: (rowC ⟨ra, rc, l⟩ :: (rowsC R ++ s))) := by
    refine ⟨[rowC (gx R i)], ?_⟩
    have q1 : (rowC ⟨ra, rc, l⟩ :: (rowsC R ++ s)).Perm ((rowsC (R.set i ⟨ra, rc, l⟩) ++ s) ++ [rowC (gx R i)]) := by
      have e1 := (((rows_pick hi').append_right s).cons (rowC ⟨ra, rc, l⟩)).trans (.swap _ _ _)
      have e2 := (rows_set (q := (⟨ra, rc, l⟩ : Row)) hi').append_right s
      exact (e1.trans (e2.symm.cons _)).trans (List.perm_append_comm (l₁ := [rowC (gx R i)]))
    exact (q1.cons _).trans ((h2.append_right _).symm)
  refine opk_store (ro := ro) (R := fun s2 c2 => s2 = putS o.dst undef sl ∧ c2 = (⟨.slice a n c, 1, (R.set i ⟨ra, rc, l⟩).map encRow⟩ :: (rowC ⟨ra, rc, l⟩ :: (rowsC R ++ s)))) ho hx hy hsz rfl hu' (gx_map hi') (by decide) ⟨rfl, rfl⟩ ac w hk hs K Q ?_
  rintro a' w' _ _ ⟨rfl, rfl⟩ hk' hs' he
  exact hK a' w' _ _ hR' hk' (hs'.sub hsub) (he.sub hsub)

theorem In.nils {w0 w : World} {ro ch ch0 : List Chunk} (hs : St w ro ch) (he : Ext w0 ch0 w ch) : ∀ n, St w ro (rowsC (List.replicate n nilRow) ++ ch) ∧ Ext w0 ch0 w (rowsC (List.replicate n nilRow) ++ ch)
  | 0 => ⟨hs, he⟩
  | n + 1 => by
    obtain ⟨h1, h2⟩ := In.nils hs he n
    refine ⟨h1.nil (sz := 1) (by decide), ⟨h2.size, h2.keep, fun c hc b hb hlt => ?_, h2.env⟩⟩
    rcases List.mem_cons.1 hc with rfl | hc
    · simp [Chunk.blk, blkOf, rowC, nilRow] at hb
    · exact h2.from_ c hc b hb hlt

/-- A new slice of slices that are nil. -/
theorem n_makeM {t e : TypeId} {x y : Operand} {k k' : IntKind} {n : Int} {j : Nat} {i : TypeInfo} {z : Value} (hj : n = (j : Int)) (hn : j ≤ 1073741824)
    (ht : P.underlying t = some (.slice e)) (hi : P.info? e = some i) (hb : i.bytes ≤ 65536)
    (hR : ∀ (p : Addr) (R : List Row), nums R = List.replicate j [] → Rk (putS o.dst (.slice (some p) j j) sl) (⟨.slice (some p) j j, 1, R.map encRow⟩ :: (rowsC R ++ ch)))
    (ho : o.op = .makeSlice t x y := by rfl) (hx : kev N sl x = some (.int k n) := by rfl) (hy : kev N sl y = some (.int k' n) := by rfl) (hz : i.zero = some z := by rfl) (hsz : i.size = 1 := by rfl)
    (hzs : z.cells.toList = encRow nilRow := by rfl) : OpK P N ro o sl ch Rk := by
  subst hj
  have hb' : (i.bytes : Int) * (j : Int) ≤ 281474976710656 := by
    have h1 : i.bytes * j ≤ 65536 * 1073741824 := Nat.mul_le_mul hb hn
    have h2 : ((i.bytes * j : Nat) : Int) ≤ 70368744177664 := by omega
    rw [Int.natCast_mul] at h2
    omega
  intro a w hk hs K Q hK
  refine opk_make (R := fun s c => ∃ p : Addr, s = putS o.dst (.slice (some p) j j) sl ∧ c = (⟨.slice (some p) j j, 1, (List.replicate j nilRow).map encRow⟩ :: ch)) ho hx hy ht hi hz hsz hzs rfl (by decide) (by omega) hb' (by omega) (fun p => ⟨p, by simp, by simp [List.map_replicate]⟩) a w hk hs K Q ?_
  rintro a' w' _ _ ⟨p, rfl, rfl⟩ hk' hs' he'
  obtain ⟨h1, h2⟩ := In.nils hs' he' j
  have pp : (rowsC (List.replicate j nilRow) ++ (⟨.slice (some p) j j, 1, (List.replicate j nilRow).map encRow⟩ :: ch)).Perm (⟨.slice (some p) j j, 1, (List.replicate j nilRow).map encRow⟩ :: (rowsC (List.replicate j nilRow) ++ ch)) := List.perm_middle
  exact hK a' w' _ _ (hR p _ nums_rep) hk' (h1.perm pp) (h2.perm pp)

/-- A row's header. -/
theorem v_ldr {t : TypeId} {x : Operand} {a : Option Addr} {n c j : Nat} {R : List Row} {m : List (List Int)} (hj : j < n) (hm : nums R = m) (hag : ∀ w, (isAgg t).run P w = .ok false w) (ho : o.op = .load t x := by rfl) (hx : kev N sl x = some (adr (.slice a n c) 1 j 0) := by rfl)
    (hmm : (⟨.slice a n c, 1, R.map encRow⟩ : Chunk) ∈ ro ++ ch := by repeat (first | exact mh | apply mt | apply mas | apply ms)) : OpV P N ro ch o sl (.slice (gx R j).a (gx m j).length (gx R j).c) := by
  intro ac w hkn hs
  have hl := slice_len (mem_ok hs hmm)
  rw [List.length_map] at hl
  have := opv_load (P := P) (N := N) (sl := sl) ho hx hag hmm (gx_map (show j < R.length by omega)) (k := 0) (v := .slice (gx R j).a (gx R j).l.length (gx R j).c) rfl ac w hkn hs
  rw [this, ← hm, nums_gx (by omega)]
end
theorem k_lenM {E : Env} {co : Code} {Q : Exit → KPred} {sl : Slots} {ch : List Chunk} {R : List Row} {m : List (List Int)} {a : Option Addr} {n c : Nat} (hm : nums R = m) (h : n = m.length → KWp E co Q sl ch)
    (hmm : (⟨.slice a n c, 1, R.map encRow⟩ : Chunk) ∈ E.ro ++ ch := by repeat (first | exact mh | apply mt | apply mas | apply ms)) : KWp E co Q sl ch := kwp_len hmm (fun hn => h (by rw [hn, List.length_map, ← hm, nums_len]))
/-- A nil slice of slices. -/
theorem kops_nilM {E : Env} {ops : Array Oper} {Q : Exit → KPred} {l : List Oper} {sl : Slots} {ch : List Chunk} (h : ∀ R, nums R = [] → KOps E ops Q l sl (⟨.slice none 0 0, 1, R.map encRow⟩ :: (rowsC R ++ ch))) : KOps E ops Q l sl ch := kops_nilchunk 1 (by decide) (h [] rfl)
end Go.Proofs.YtpfijnklnljccaaDoor

namespace Go.Proofs.YtpfijnklnljccaaDoor
open Go
set_option linter.unusedVariables false
set_option linter.unusedSimpArgs false

section
variable {E : Env} {ops : Array Oper} {Q : Exit → KPred} {l : List Oper} {o : Oper} {sl : Slots} {ch : List Chunk} {d : Nat} {v : Value}
theorem kd (h : OpV E.P E.N E.ro ch o sl v) (hR : KOps E ops Q l ((d, v) :: sl) ch) (hg : o.guard = none := by rfl) (hd : o.dst = some d := by rfl) : KOps E ops Q (o :: l) sl ch := kops_d hg hd h hR
theorem kk (h : OpK E.P E.N E.ro o sl ch (KOps E ops Q l)) (hg : o.guard = none := by rfl) : KOps E ops Q (o :: l) sl ch := kops_step hg h
theorem kgd {j d' : Nat} {want b : Bool} (hbw : b = want) (h : OpV E.P E.N E.ro ch o sl v) (hR : KOps E ops Q l ((d, v) :: sl) ch) (hg : o.guard = some (j, want) := by rfl) (hj : (ops[j]?).bind (·.dst) = some d' := by rfl)
    (hb : kev E.N sl (.tmp d') = some (.bool b) := by rfl) (hd : o.dst = some d := by rfl) : KOps E ops Q (o :: l) sl ch := kops_gd hg hj hb hbw hd h hR
theorem kgk {j d' : Nat} {want b : Bool} (hbw : b = want) (h : OpK E.P E.N E.ro o sl ch (KOps E ops Q l)) (hg : o.guard = some (j, want) := by rfl) (hj : (ops[j]?).bind (·.dst) = some d' := by rfl)
    (hb : kev E.N sl (.tmp d') = some (.bool b) := by rfl) : KOps E ops Q (o :: l) sl ch := kops_gk hg hj hb hbw h
theorem kskip {j d' : Nat} {want b : Bool} (hbw : b = !want) (hR : KOps E ops Q l (putS o.dst undef sl) ch) (hg : o.guard = some (j, want) := by rfl) (hj : (ops[j]?).bind (·.dst) = some d' := by rfl)
    (hb : kev E.N sl (.tmp d') = some (.bool b) := by rfl) : KOps E ops Q (o :: l) sl ch := kops_skip hg hj hb hbw hR
end

theorem run_equal_nil {P : Program} (w : World) {t e : TypeId} {a : Option Addr} {n c : Nat} (d : Nat) (hu : ∀ w, (underlying t).run P w = .ok (.slice e) w) : (Op.equalIn (d + 1) t (.slice a n c) (.slice none 0 0)).run P w = .ok a.isNone w := by
  unfold Op.equalIn
  cases a <;> simp [hu]
section
variable {P : Program} {N : Nat} {ro ch : List Chunk} {o : Oper} {sl : Slots}
theorem v_mv {x : Operand} {v : Value} (ho : o.op = .move x := by rfl) (hx : kev N sl x = some v := by rfl) : OpV P N ro ch o sl v := opv_move ho hx
theorem v_as {x : Operand} {v : Value} (ho : o.op = .assign x := by rfl) (hx : kev N sl x = some v := by rfl) : OpV P N ro ch o sl v := opv_assign ho hx
theorem v_pt {c x y : Operand} {b : Bool} {v : Value} (hb : b = true) (ho : o.op = .pick c x y := by rfl) (hc : kev N sl c = some (.bool b) := by rfl) (hx : kev N sl x = some v := by rfl) : OpV P N ro ch o sl v := opv_pick_t ho hc hx hb
theorem v_pf {c x y : Operand} {b : Bool} {v : Value} (hb : b = false) (ho : o.op = .pick c x y := by rfl) (hc : kev N sl c = some (.bool b) := by rfl) (hx : kev N sl y = some v := by rfl) : OpV P N ro ch o sl v := opv_pick_f ho hc hx hb
theorem v_cmp {op : BinOp} {t u : TypeId} {x y : Operand} {k : IntKind} {a b : Int} {r : Bool} (ho : o.op = .binOp op t x y u := by rfl) (hx : kev N sl x = some (.int k a) := by rfl) (hy : kev N sl y = some (.int k b) := by rfl)
    (hc : cmpB op a b = some r := by rfl) : OpV P N ro ch o sl (.bool r) := opv_cmp ho hx hy hc
theorem v_add {t u : TypeId} {x y : Operand} {a b : Int} (ho : o.op = .binOp .add t x y u := by rfl) (hx : kev N sl x = some (.int .i64 a) := by rfl) (hy : kev N sl y = some (.int .i64 b) := by rfl) : OpV P N ro ch o sl (.int .i64 (w64 (a + b))) := opv_ari ho hx hy rfl
theorem v_sub {t u : TypeId} {x y : Operand} {a b : Int} (ho : o.op = .binOp .sub t x y u := by rfl) (hx : kev N sl x = some (.int .i64 a) := by rfl) (hy : kev N sl y = some (.int .i64 b) := by rfl) : OpV P N ro ch o sl (.int .i64 (w64 (a - b))) := opv_ari ho hx hy rfl
theorem v_mul {t u : TypeId} {x y : Operand} {a b : Int} (ho : o.op = .binOp .mul t x y u := by rfl) (hx : kev N sl x = some (.int .i64 a) := by rfl) (hy : kev N sl y = some (.int .i64 b) := by rfl) : OpV P N ro ch o sl (.int .i64 (w64 (a * b))) := opv_ari ho hx hy rfl
theorem v_bit {op : BinOp} {t u : TypeId} {x y : Operand} {k : IntKind} {a b r : Int} (ho : o.op = .binOp op t x y u := by rfl) (hx : kev N sl x = some (.int k a) := by rfl) (hy : kev N sl y = some (.int k b) := by rfl)
    (hc : bitB k op a b = some r := by rfl) : OpV P N ro ch o sl (.int k r) := opv_bit ho hx hy hc
theorem v_quo {t u : TypeId} {x y : Operand} {k : IntKind} {a b : Int} (ho : o.op = .binOp .quo t x y u := by rfl) (hx : kev N sl x = some (.int k a) := by rfl) (hy : kev N sl y = some (.int k b) := by rfl) (h0 : b ≠ 0 := by decide) : OpV P N ro ch o sl (.int k (k.wrap (a.tdiv b))) := opv_quo ho hx hy h0
theorem v_rem {t u : TypeId} {x y : Operand} {k : IntKind} {a b : Int} (ho : o.op = .binOp .rem t x y u := by rfl) (hx : kev N sl x = some (.int k a) := by rfl) (hy : kev N sl y = some (.int k b) := by rfl) (h0 : b ≠ 0 := by decide) : OpV P N ro ch o sl (.int k (a.tmod b)) := opv_rem ho hx hy h0
theorem v_shl {t u : TypeId} {x y : Operand} {k k' : IntKind} {a b : Int} (ho : o.op = .binOp .shl t x y u := by rfl) (hx : kev N sl x = some (.int k a) := by rfl) (hy : kev N sl y = some (.int k' b) := by rfl) (h0 : 0 ≤ b := by decide) : OpV P N ro ch o sl (.int k (k.wrap (a * 2 ^ min b.toNat k.bits))) := opv_shl ho hx hy h0
theorem v_shr {t u : TypeId} {x y : Operand} {k k' : IntKind} {a b : Int} (ho : o.op = .binOp .shr t x y u := by rfl) (hx : kev N sl x = some (.int k a) := by rfl) (hy : kev N sl y = some (.int k' b) := by rfl) (h0 : 0 ≤ b := by decide) : OpV P N ro ch o sl (.int k (a.fdiv (2 ^ min b.toNat k.bits))) := opv_shr ho hx hy h0
theorem v_not {t : TypeId} {x : Operand} {b : Bool} (ho : o.op = .unOp .not t x := by rfl) (hx : kev N sl x = some (.bool b) := by rfl) : OpV P N ro ch o sl (.bool (!b)) := opv_not ho hx
theorem v_neg {t : TypeId} {x : Operand} {a : Int} (ho : o.op = .unOp .neg t x := by rfl) (hx : kev N sl x = some (.int .i64 a) := by rfl) : OpV P N ro ch o sl (.int .i64 (w64 (-a))) := by
  have h := opv_neg (P := P) (ro := ro) (ch := ch) ho hx
  rw [Int.zero_sub] at h
  exact h
theorem v_neb {t u : TypeId} {x y : Operand} {a b : Bool} (hu : P.underlying t = some .bool) (ho : o.op = .binOp .neq t x y u := by rfl) (hx : kev N sl x = some (.bool a) := by rfl) (hy : kev N sl y = some (.bool b) := by rfl) : OpV P N ro ch o sl (.bool (!(a == b))) := opv_neb ho hx hy hu
theorem v_len {t : TypeId} {x : Operand} {a : Option Addr} {n c : Nat} {e : TypeId} (hu : ∀ w, (underlying t).run P w = .ok (.slice e) w) (ho : o.op = .call { callee := .builtin .len, args := #[x], argTypes := #[t] } := by rfl)
    (hx : kev N sl x = some (.slice a n c) := by rfl) : OpV P N ro ch o sl (.int .i64 (n : Int)) := opv_len ho rfl hx hu
theorem v_min {t u : TypeId} {x y : Operand} {k : IntKind} {a b : Int} (ho : o.op = .call { callee := .builtin .min, args := #[x, y], argTypes := #[t, u] } := by rfl)
    (hx : kev N sl x = some (.int k a) := by rfl) (hy : kev N sl y = some (.int k b) := by rfl) : OpV P N ro ch o sl (.int k (min a b)) := opv_min ho hx hy
theorem v_max {t u : TypeId} {x y : Operand} {k : IntKind} {a b : Int} (ho : o.op = .call { callee := .builtin .max, args := #[x, y], argTypes := #[t, u] } := by rfl)
    (hx : kev N sl x = some (.int k a) := by rfl) (hy : kev N sl y = some (.int k b) := by rfl) : OpV P N ro ch o sl (.int k (max a b)) := opv_max ho hx hy
theorem v_cv {s d : TypeId} {x : Operand} {k kd : IntKind} {a : Int} {ds : TypeDesc} (hus : ∀ w, (underlying s).run P w = .ok ds w) (hud : ∀ w, (underlying d).run P w = .ok (.int kd) w) (ho : o.op = .convert s d x := by rfl)
    (hx : kev N sl x = some (.int k a) := by rfl) : OpV P N ro ch o sl (.int kd (kd.wrap a)) := opv_conv ho hx hus hud
theorem v_ex {x : Operand} {i : Nat} {vs : Array Value} {v : Value} (ho : o.op = .extract x i := by rfl) (hx : kev N sl x = some (.tuple vs) := by rfl) (hi : vs[i]? = some v := by rfl) : OpV P N ro ch o sl v := opv_extract ho hx hi
theorem v_bd {t : TypeId} {ps : Array (Nat × Operand)} {z : Value} {fs : Array Field} {places : Array (Nat × Nat)} (vs : List (Nat × Value)) (out : List Value)
    (hz : ∀ w, (zeroValue t).run P w = .ok z w) (hu : ∀ w, (underlying t).run P w = .ok (.struct fs) w)
    (hpl : ∀ w, (fs.mapM (fun (f : Field) => (do pure (f.offset, ← sizeOf f.type) : Sem (Nat × Nat)))).run P w = .ok places w) (ho : o.op = .build t ps := by rfl)
    (hx : ps.toList.map (fun p => (p.1, kev N sl p.2)) = vs.map (fun p => (p.1, some p.2)) := by rfl) (hf : Instr.fill (places[·]?) z.cells vs = some out.toArray := by rfl) : OpV P N ro ch o sl (.agg out.toArray) := opv_build1 vs out ho hx hz hu hpl hf
theorem v_eqn {t u e : TypeId} {x y : Operand} {a : Option Addr} {n c : Nat} (hu : ∀ w, (underlying t).run P w = .ok (.slice e) w) (ho : o.op = .binOp .eql t x y u := by rfl) (hx : kev N sl x = some (.slice a n c) := by rfl) (hy : kev N sl y = some (.slice none 0 0) := by rfl) : OpV P N ro ch o sl (.bool a.isNone) :=
  fun ac w hkn _ => by
    have h := run_equal_nil (P := P) w (a := a) (n := n) (c := c) 9999 hu
    unfold execOp; simp [ho, hkn.ev hx, hkn.ev hy, eqGuard, binOp, Op.equal, Op.maxDepth, h]
theorem chunk_len {w : World} {ro ch : List Chunk} {a : Option Addr} {n c sz : Nat} {es : List (List Value)} (hs : St w ro ch) (hm : (⟨.slice a n c, sz, es⟩ : Chunk) ∈ ro ++ ch) : n = es.length := slice_len (mem_ok hs hm)

theorem v_ia {t e : TypeId} {x ix : Operand} {a : Option Addr} {n c sz : Nat} {k : IntKind} {i : Int} {j : Nat} {es : List (List Value)}
    (hj : i = (j : Int)) (hn : j < n) (hu : ∀ w, (underlying t).run P w = .ok (.slice e) w) (hsz : ∀ w, (sizeOf e).run P w = .ok sz w)
     (ho : o.op = .indexAddr t x ix := by rfl) (hx : kev N sl x = some (.slice a n c) := by rfl) (hi : kev N sl ix = some (.int k i) := by rfl) (hm : (⟨.slice a n c, sz, es⟩ : Chunk) ∈ ro ++ ch := by repeat (first | exact mh | apply mt | apply mas | apply ms)) : OpV P N ro ch o sl (adr (.slice a n c) sz j 0) := by
  intro ac w hk hs
  exact opv_ia ho hx hi hu hsz hm hj (by rw [← chunk_len hs hm]; exact hn) ac w hk hs
theorem v_fa {s : TypeId} {x : Operand} {f off : Nat} {a : Option Addr} {n c : Nat} {sz i k : Nat} {es : List (List Value)}
    (hi : i < n) (hfa : FieldAt P s f off)  (ho : o.op = .fieldAddr s x f := by rfl) (hx : kev N sl x = some (adr (.slice a n c) sz i k) := by rfl) (hm : (⟨.slice a n c, sz, es⟩ : Chunk) ∈ ro ++ ch := by repeat (first | exact mh | apply mt | apply mas | apply ms)) : OpV P N ro ch o sl (adr (.slice a n c) sz i (k + off)) := by
  intro ac w hk hs
  exact opv_fa ho hx hfa hm (by rw [← chunk_len hs hm]; exact hi) ac w hk hs
theorem v_fb {s : TypeId} {x : Operand} {f off : Nat} {p : Addr} {sz : Nat} {e : List Value}
    (hfa : FieldAt P s f off)  (ho : o.op = .fieldAddr s x f := by rfl) (hx : kev N sl x = some (.pointer (some p)) := by rfl) (hm : (⟨.pointer (some p), sz, [e]⟩ : Chunk) ∈ ro ++ ch := by repeat (first | exact mh | apply mt | apply mas | apply ms)) : OpV P N ro ch o sl (adr (.pointer (some p)) sz 0 off) := opv_fab ho hx hfa hm
section
variable {α : Type} [Inhabited α] {enc : α → List Value} {l : List α}
theorem v_ldf {t : TypeId} {x : Operand} {a : Option Addr} {n c sz j k : Nat} {v : Value} (hj : j < n) (hag : ∀ w, (isAgg t).run P w = .ok false w) 
    (ho : o.op = .load t x := by rfl) (hx : kev N sl x = some (adr (.slice a n c) sz j k) := by rfl) (hm : (⟨.slice a n c, sz, l.map enc⟩ : Chunk) ∈ ro ++ ch := by repeat (first | exact mh | apply mt | apply mas | apply ms)) (hk : (enc (gx l j))[k]? = some v := by rfl) : OpV P N ro ch o sl v := by
  intro ac w hkn hs
  have hl := chunk_len hs hm
  rw [List.length_map] at hl
  exact opv_load ho hx hag hm (gx_map (by omega)) hk ac w hkn hs
theorem v_lda {t : TypeId} {x : Operand} {a : Option Addr} {n c sz j : Nat} {e : List Value} (hj : j < n) (hag : ∀ w, (isAgg t).run P w = .ok true w) (hsz : ∀ w, (sizeOf t).run P w = .ok sz w) 
    (ho : o.op = .load t x := by rfl) (hx : kev N sl x = some (adr (.slice a n c) sz j 0) := by rfl) (hm : (⟨.slice a n c, sz, l.map enc⟩ : Chunk) ∈ ro ++ ch := by repeat (first | exact mh | apply mt | apply mas | apply ms)) (he : enc (gx l j) = e := by rfl) : OpV P N ro ch o sl (.agg e.toArray) := by
  intro ac w hkn hs
  have hl := chunk_len hs hm
  rw [List.length_map] at hl
  subst he
  exact opv_load_agg ho hx hag hsz hm (gx_map (by omega)) ac w hkn hs
end
theorem v_ldb {t : TypeId} {x : Operand} {p : Addr} {sz k : Nat} {e : List Value} {v : Value} (hag : ∀ w, (isAgg t).run P w = .ok false w) 
    (ho : o.op = .load t x := by rfl) (hx : kev N sl x = some (adr (.pointer (some p)) sz 0 k) := by rfl) (hm : (⟨.pointer (some p), sz, [e]⟩ : Chunk) ∈ ro ++ ch := by repeat (first | exact mh | apply mt | apply mas | apply ms)) (hk : e[k]? = some v := by rfl) : OpV P N ro ch o sl v := opv_load (es := [e]) ho hx hag hm rfl hk
theorem v_ldB {t : TypeId} {x : Operand} {p : Addr} {sz : Nat} {e : List Value} (hag : ∀ w, (isAgg t).run P w = .ok true w) (hsz : ∀ w, (sizeOf t).run P w = .ok sz w) 
    (ho : o.op = .load t x := by rfl) (hx : kev N sl x = some (.pointer (some p)) := by rfl) (hm : (⟨.pointer (some p), sz, [e]⟩ : Chunk) ∈ ro ++ ch := by repeat (first | exact mh | apply mt | apply mas | apply ms)) : OpV P N ro ch o sl (.agg e.toArray) := opv_load_box ho hx hag hsz hm
/-- A slice of a slice. -/
theorem v_sl {t e : TypeId} {x : Operand} {lo hi : Option Operand} {a : Option Addr} {n c sz l h : Nat} {es : List (List Value)} (hlh : l ≤ h) (hn : h ≤ n) (hu : ∀ w, (underlying t).run P w = .ok (.slice e) w) (hsz : ∀ w, (sizeOf e).run P w = .ok sz w)
    (ho : o.op = .slice t x lo hi none := by rfl) (hx : kev N sl x = some (.slice a n c) := by rfl) (hm : (⟨.slice a n c, sz, es⟩ : Chunk) ∈ ro ++ ch := by repeat (first | exact mh | apply mt | apply mas | apply ms))
    (hlo : match lo with | none => l = 0 | some y => ∃ k i, kev N sl y = some (.int k i) ∧ i = (l : Int)) (hhi : match hi with | none => h = n | some y => ∃ k i, kev N sl y = some (.int k i) ∧ i = (h : Int)) : OpV P N ro ch o sl (.slice (if c = l then a else a.map (·.add (l * sz))) (h - l) (c - l)) := by
  intro ac w hkn hs
  have hc : n ≤ c := by
    obtain ⟨_, _, h2⟩ := mem_ok hs hm
    cases a with
    | none => obtain ⟨h1, h3, _⟩ := h2; omega
    | some ad => exact h2.2.1
  refine opv_slice (l := l) (h := h) ho hx hu hsz ?_ ?_ hlh (by omega) ac w hkn hs
  · cases lo with
    | none => exact hlo
    | some y => obtain ⟨k, i, h1, rfl⟩ := hlo; exact ⟨k, h1⟩
  · cases hi with
    | none => exact hhi
    | some y => obtain ⟨k, i, h1, rfl⟩ := hhi; exact ⟨k, h1⟩
end

section
variable {P : Program} {N : Nat} {ro ch ch' : List Chunk} {o : Oper} {sl : Slots} {R : KPred}
section
variable {α : Type} [Inhabited α] {enc : α → List Value} {l : List α}
/-- One cell of an element. -/
theorem s_f {t : TypeId} {x y : Operand} {a : Option Addr} {n c sz j k : Nat} {v : Value} (z : α) (hj : j < n) (hsz : ∀ w, (sizeOf t).run P w = .ok 1 w) 
     (hR : R (putS o.dst undef sl) ch') (ho : o.op = .store t x y := by rfl) (hx : kev N sl x = some (adr (.slice a n c) sz j k) := by rfl) (hu : Upd ch ⟨.slice a n c, sz, l.map enc⟩ ⟨.slice a n c, sz, (l.set j z).map enc⟩ ch' := by repeat (first | exact Upd.here | apply Upd.there | apply Upd.seg)) (hk : k < sz := by decide) (hy : kev N sl y = some v := by rfl) (hz : enc z = (enc (gx l j)).set k v := by rfl)
    (hv : v.oneCell' = true := by rfl) : OpK P N ro o sl ch R := by
  intro ac w hkn hs K Q hK
  have hl := slice_len (hs.wok _ (upd_mem hu))
  rw [List.length_map] at hl
  rw [← map_set' hz] at hu
  exact opk_store ho hx hy hsz hv hu (gx_map (by omega)) hk hR ac w hkn hs K Q hK
end
/-- One cell of a variable. -/
theorem s_b {t : TypeId} {x y : Operand} {p : Addr} {sz k : Nat} {e e' : List Value} {v : Value} (hsz : ∀ w, (sizeOf t).run P w = .ok 1 w) 
     (hR : R (putS o.dst undef sl) ch') (ho : o.op = .store t x y := by rfl) (hx : kev N sl x = some (adr (.pointer (some p)) sz 0 k) := by rfl) (hu : Upd ch ⟨.pointer (some p), sz, [e]⟩ ⟨.pointer (some p), sz, [e']⟩ ch' := by repeat (first | exact Upd.here | apply Upd.there | apply Upd.seg)) (hk : k < sz := by decide) (hy : kev N sl y = some v := by rfl) (he : e' = e.set k v := by rfl)
    (hv : v.oneCell' = true := by rfl) : OpK P N ro o sl ch R := by
  subst he
  exact opk_store (es := [e]) (i := 0) ho hx hy hsz hv hu rfl hk hR
/-- A whole variable. -/
theorem s_B {t : TypeId} {x y : Operand} {p : Addr} {sz : Nat} {e e' : List Value} {v : Value} (hsz : ∀ w, (sizeOf t).run P w = .ok sz w) 
    (hR : R (putS o.dst undef sl) ch') (ho : o.op = .store t x y := by rfl) (hx : kev N sl x = some (.pointer (some p)) := by rfl) (hu : Upd ch ⟨.pointer (some p), sz, [e]⟩ ⟨.pointer (some p), sz, [e']⟩ ch' := by repeat (first | exact Upd.here | apply Upd.there | apply Upd.seg)) (hy : kev N sl y = some v := by rfl)
    (hcv : v.cells.toList = e' := by rfl) (hl : e'.length = sz := by rfl) (hv : ∀ u ∈ e', u.oneCell' = true := by simp [Value.oneCell']) : OpK P N ro o sl ch R := opk_store_box ho hx hy hsz hcv hv hl hu hR
theorem n_box {t : TypeId} {x : Operand} {v : Value} {e : List Value} (sz : Nat) (hR : ∀ p : Addr, R (putS o.dst (.pointer (some p)) sl) (⟨.pointer (some p), sz, [e]⟩ :: ch))
    (ho : o.op = .box t x := by rfl) (hx : kev N sl x = some v := by rfl) (he : v.cells.toList = e := by rfl) (hl : e.length = sz := by rfl) (hp : 0 < sz := by decide) : OpK P N ro o sl ch R := opk_box' sz ho hx he hl hp hR
theorem n_alloc {t : TypeId} {z : Value} {e : List Value} (sz : Nat) (hz : ∀ w, (zeroValue t).run P w = .ok z w) (hR : ∀ p : Addr, R (putS o.dst (.pointer (some p)) sl) (⟨.pointer (some p), sz, [e]⟩ :: ch))
    (ho : o.op = .alloc t := by rfl) (he : z.cells.toList = e := by rfl) (hl : e.length = sz := by rfl) (hp : 0 < sz := by decide) : OpK P N ro o sl ch R := opk_alloc' sz ho hz he hl hp hR
/-- A new slice of zeros. -/
theorem n_make {α : Type} {enc : α → List Value} {t e : TypeId} {x y : Operand} {k k' : IntKind} {n : Int} {j : Nat} {i : TypeInfo} {z : Value} {sz : Nat} (z0 : α) (hj : n = (j : Int)) (hn : j ≤ 1073741824)
    (ht : P.underlying t = some (.slice e)) (hi : P.info? e = some i) (hb : i.bytes ≤ 65536)
    (hR : ∀ p : Addr, R (putS o.dst (.slice (some p) j j) sl) (⟨.slice (some p) j j, sz, (List.replicate j z0).map enc⟩ :: ch))
    (ho : o.op = .makeSlice t x y := by rfl) (hx : kev N sl x = some (.int k n) := by rfl) (hy : kev N sl y = some (.int k' n) := by rfl) (hz : i.zero = some z := by rfl) (hsz : i.size = sz := by rfl)
    (hzs : z.cells.toList = enc z0 := by rfl) (hzl : (enc z0).length = sz := by rfl) (hp : 0 < sz := by decide) : OpK P N ro o sl ch R := by
  subst hj
  have hb' : (i.bytes : Int) * (j : Int) ≤ 281474976710656 := by
    have h1 : i.bytes * j ≤ 65536 * 1073741824 := Nat.mul_le_mul hb hn
    have h2 : ((i.bytes * j : Nat) : Int) ≤ 70368744177664 := by omega
    rw [Int.natCast_mul] at h2
    omega
  refine opk_make ho hx hy ht hi hz hsz hzs hzl hp (by omega) hb' (by omega) ?_
  simpa [List.map_replicate] using hR
/-- A slice literal. -/
theorem n_lit {α : Type} {enc : α → List Value} {t e : TypeId} {n : Nat} {ps : Array (Nat × Operand)} {z : Value} {sz : Nat} (vs : List Value) (ls : List α) (hu : ∀ w, (underlying t).run P w = .ok (.slice e) w) (hsz : ∀ w, (sizeOf e).run P w = .ok sz w) (hz : ∀ w, (zeroValue e).run P w = .ok z w)
    (hR : ∀ p : Addr, R (putS o.dst (.slice (some p) n n) sl) (⟨.slice (some p) n n, sz, ls.map enc⟩ :: ch))
    (ho : o.op = .buildSlice t n ps := by rfl) (hps : ps.toList.map (fun p => (p.1, kev N sl p.2)) = (List.range' 0 vs.length).zip (vs.map some) := by rfl) (hn : vs.length = n := by rfl) (hzl : z.cells.size = sz := by rfl)
    (hls : vs.map (fun v => v.cells.toList) = ls.map enc := by rfl) (hp : 0 < sz := by decide) (hb : n * sz ≤ 16777216 := by decide) (hv : ∀ v ∈ vs, v.cells.size = sz := by simp [Value.cells]) : OpK P N ro o sl ch R := by
  refine opk_buildSlice ho hps hn hu hsz hz hzl hp hv hb ?_
  intro p; rw [hls]; exact hR p
theorem ok_map {α : Type} {enc : α → List Value} {l : List α} (h : ∀ x, ∀ u ∈ enc x, u.oneCell' = true) : ∀ e ∈ l.map enc, ∀ u ∈ e, u.oneCell' = true := by
  intro e he
  obtain ⟨x, _, rfl⟩ := List.mem_map.1 he
  exact h x
/-- append. -/
theorem n_app {α : Type} {enc : α → List Value} {l m : List α} {t e : TypeId} {x y : Operand} {i : TypeInfo} {z : Value} {sz : Nat} {a b : Option Addr} {n c q c2 : Nat} {r : List Chunk} (hone : ∀ x, ∀ u ∈ enc x, u.oneCell' = true) (hlim : l.length + m.length ≤ 1073741824)
    (ht : P.underlying t = some (.slice e)) (hi : P.info? e = some i) (hb : i.bytes ≤ 65536)
     
    (hR : ∀ (a' : Option Addr) (c' : Nat), R (putS o.dst (.slice a' (l ++ m).length c') sl) (⟨.slice a' (l ++ m).length c', sz, (l ++ m).map enc⟩ :: r))
    (ho : o.op = .call { callee := .builtin .append, args := #[x, y], argTypes := #[t, t] } := by rfl)
    (hx : kev N sl x = some (.slice a n c) := by rfl) (hy : kev N sl y = some (.slice b q c2) := by rfl) (hm : (⟨.slice b q c2, sz, m.map enc⟩ : Chunk) ∈ ro ++ ch := by repeat (first | exact mh | apply mt | apply mas | apply ms)) (hp : Pick ch ⟨.slice a n c, sz, l.map enc⟩ r := by repeat (first | exact Pick.here | apply Pick.there | apply Pick.seg)) (hz : i.zero = some z := by rfl) (hsz : i.size = sz := by rfl) (hzl : z.cells.size = sz := by rfl) : OpK P N ro o sl ch R := by
  intro ac w hkn hs K Q hK
  have h1 := slice_len (hs.wok _ hp.mem)
  have h2 := chunk_len hs hm
  rw [List.length_map] at h1 h2
  have hbb : (n + q) * i.bytes ≤ 140737488355328 := by
    have := Nat.mul_le_mul (show n + q ≤ 1073741824 by omega) hb
    omega
  refine opk_append ho hx hy ht hi hz hsz hzl hm (ok_map hone) hp (by omega) hbb ?_ ac w hkn hs K Q hK
  intro a' c'
  have e1 : n + q = (l ++ m).length := by rw [List.length_append]; omega
  rw [e1, ← List.map_append]
  exact hR a' c'
end

theorem hd_mk {S sl : Slots} {C ch : List Chunk} {p : Prop} (hp : p) (s : Knows S sl := by (repeat (first | exact Knows.nil _ | refine Knows.cons2 rfl (by rfl) ?_)))
    (c : Sub C ch := by (repeat (first | exact Sub.refl _ | exact Sub.nil _ | refine Sub.chunk (by repeat (first | exact Pick.here | apply Pick.there | apply Pick.seg)) (by rfl) ?_ | refine Sub.seg (by repeat (first | exact PickSeg.here | exact PickSeg.all | apply PickSeg.there | apply PickSeg.seg)) ?_ | exact Sub.seg0 (by repeat (first | exact PickSeg.here | exact PickSeg.all | apply PickSeg.there | apply PickSeg.seg)) | apply Sub.assoc))) : Hd S C p sl ch := ⟨hp, s, c⟩

/-- A way out of a loop, whose outcome is told. -/
def KOut {σ ε : Type} (b : Lp σ ε) (o : ε) (Q : Exit → KPred) : Exit → KPred := fun e sl ch => (∀ c, e ≠ .panic c) ∧ ∃ o', b = .out o' ∧ (o' = o → Q e sl ch)
theorem k_out {σ ε : Type} {b : Lp σ ε} {o o' : ε} {Q : Exit → KPred} {e : Exit} {sl : Slots} {ch : List Chunk} (h : o' = o → Q e sl ch) (hb : b = .out o') (hn : ∀ c, e ≠ .panic c := by nofun) : KOut b o Q e sl ch := ⟨hn, o', hb, h⟩
class NoPan (Q : Exit → KPred) : Prop where
  go : ∀ c s h, ¬ Q (.panic c) s h
instance npThen {n : KPred} {Q : Exit → KPred} [i : NoPan Q] : NoPan (KThen n Q) := ⟨fun c s h q => i.go c s h q⟩
instance npBlock {id : Nat} {Q : Exit → KPred} [i : NoPan Q] : NoPan (KBlock id Q) := ⟨fun c s h q => i.go c s h q⟩
instance npBody {fn : Func} {P : Program} {ro : List Chunk} {R : Value → List Chunk → Prop} : NoPan (KBody fn P ro R) := ⟨fun c s h q => q⟩
instance npOut {σ ε : Type} {b : Lp σ ε} {o : ε} {Q : Exit → KPred} : NoPan (KOut b o Q) := ⟨fun c s h q => q.1 c rfl⟩
theorem nopan {Q : Exit → KPred} [i : NoPan Q] : ∀ c s h, ¬ Q (.panic c) s h := i.go

theorem kwp_loopE {E : Env} {c : Code} {Q : Exit → KPred} {sl : Slots} {ch : List Chunk} {σ ε H : Type} (inv : Slots) (S : σ → H → Slots) (C : σ → H → List Chunk) (p : σ → H → Prop) {B : σ → O (Lp σ ε)} {s0 : σ} {o : ε}
    (ho : loop B s0 = some o) (h0 : ∃ η, Hd (S s0 η ++ inv) (C s0 η) (p s0 η) sl ch)
    (round : ∀ s η b, p s η → B s = some b → KWp E c (KThen (fun sl' ch' => ∃ s' η', b = .next s' ∧ Hd (S s' η' ++ inv) (C s' η') (p s' η') sl' ch') (KOut b o Q)) (S s η ++ inv) (C s η)) :
    KWp E (.loop c) Q sl ch := by
  obtain ⟨n, hn⟩ := loop_iter ho
  intro a w hi
  obtain ⟨η, hd⟩ := h0
  refine wp_loopN (fun n a w => ∃ s η, iter B n s = some o ∧ p s η ∧ In E (S s η ++ inv) (C s η) a w) (n := n) ⟨s0, η, hn, hd.p, hi.weak hd.s hd.c⟩ ?_
  rintro n a w ⟨s, η, hit, hp, hi⟩
  cases n with
  | zero => cases hit
  | succ n =>
    unfold iter at hit
    cases hb : B s with
    | none => rw [hb] at hit; cases hit
    | some b =>
      rw [hb] at hit
      refine Code.wp_mono ?_ (round s η b hp hb a w hi)
      rintro e a' w' ⟨s1, c1, q, i⟩
      cases e with
      | normal =>
        obtain ⟨s', η', rfl, hh⟩ := q
        exact ⟨n, by omega, s', η', hit, hh.p, i.weak hh.s hh.c⟩
      | _ =>
        obtain ⟨_, o', rfl, hq⟩ := q
        cases hit
        exact ⟨s1, c1, hq rfl, i⟩

/-- What is known at a normal end may be less. -/
class MonoN (Q : Exit → KPred) : Prop where
  go : ∀ {s1 s2 : Slots} {c1 c2 : List Chunk}, Knows s2 s1 → Sub c2 c1 → Q .normal s2 c2 → Q .normal s1 c1
theorem Knows.trans {a b c : Slots} (h : Knows a b) (g : Knows b c) : Knows a c := fun t v hv => g t v (h t v hv)
theorem Hd.weak {S : Slots} {C : List Chunk} {p : Prop} {s1 s2 : Slots} {c1 c2 : List Chunk} (g : Knows s2 s1) (s : Sub c2 c1) (h : Hd S C p s2 c2) : Hd S C p s1 c1 := ⟨h.p, h.s.trans g, h.c.trans s⟩
instance monoThen {E : Env} {y : Code} {Q Q' : Exit → KPred} : MonoN (KThen (KWp E y Q') Q) := ⟨fun g s h => kwp_weak g s h⟩
instance monoBlock {id : Nat} {Q : Exit → KPred} [i : MonoN Q] : MonoN (KBlock id Q) := ⟨fun g s h => i.go (Q := Q) g s h⟩
instance monoCut {H : Type} {S : H → Slots} {C : H → List Chunk} {p : H → Prop} {Q : Exit → KPred} : MonoN (KThen (fun sl ch => ∃ η, Hd (S η) (C η) (p η) sl ch) Q) := ⟨fun g s ⟨η, h⟩ => ⟨η, h.weak g s⟩⟩
instance monoCutO {τ H : Type} {q : τ → Prop} {S : τ → H → Slots} {C : τ → H → List Chunk} {p : τ → H → Prop} {Q : Exit → KPred} : MonoN (KThen (fun sl ch => ∃ z η, q z ∧ Hd (S z η) (C z η) (p z η) sl ch) Q) := ⟨fun g s ⟨z, η, hq, h⟩ => ⟨z, η, hq, h.weak g s⟩⟩
instance monoBody {fn : Func} {P : Program} {ro : List Chunk} {R : Value → List Chunk → Prop} : MonoN (KBody fn P ro R) :=
  ⟨fun g s ⟨r, ch', h1, h2, h3⟩ => ⟨r, ch', fun a w hk hs => h1 a w (hk.weak g) (hs.sub s), h2, h3.trans s⟩⟩

/-- Ways that meet behind a piece of code: `e1` tells what is known there. -/
theorem kwp_cutE {E : Env} {x : Code} {Q : Exit → KPred} {sl : Slots} {ch : List Chunk} {τ H ρ : Type} (inv : Slots) (S : τ → H → Slots) (C : τ → H → List Chunk) (p : τ → H → Prop) {e1 : O τ} {k : τ → O ρ} {r : ρ}
    (h : Option.bind e1 k = some r) [i : MonoN Q] (hx : ∀ t, e1 = some t → KWp E x (KThen (fun sl' ch' => ∃ η, Hd (S t η ++ inv) (C t η) (p t η) sl' ch') Q) sl ch)
    (hy : ∀ t η, p t η → k t = some r → Q .normal (S t η ++ inv) (C t η)) : KWp E x Q sl ch := by
  obtain ⟨t, h1, h2⟩ := e_bind h
  refine kwp_mono (hx t h1) ?_
  intro e s c q
  cases e <;> first | (obtain ⟨η, hh⟩ := q; exact i.go hh.s hh.c (hy t η hh.p h2)) | exact q

/-- The same, where some ways go elsewhere. -/
theorem kwp_cutO {E : Env} {x : Code} {Q : Exit → KPred} {sl : Slots} {ch : List Chunk} {τ ω H ρ : Type} (inv : Slots) (S : τ → H → Slots) (C : τ → H → List Chunk) (p : τ → H → Prop) {e1 : O (τ ⊕ ω)} {k : τ ⊕ ω → O ρ} {r : ρ}
    (h : Option.bind e1 k = some r) [i : MonoN Q] (hx : ∀ t, e1 = some t → k t = some r → KWp E x (KThen (fun sl' ch' => ∃ z η, t = .inl z ∧ Hd (S z η ++ inv) (C z η) (p z η) sl' ch') Q) sl ch)
    (hy : ∀ z η, p z η → k (.inl z) = some r → Q .normal (S z η ++ inv) (C z η)) : KWp E x Q sl ch := by
  obtain ⟨t, h1, h2⟩ := e_bind h
  refine kwp_mono (hx t h1 h2) ?_
  intro e s c q
  cases e <;> first | (obtain ⟨z, η, rfl, hh⟩ := q; exact i.go hh.s hh.c (hy z η hh.p h2)) | exact q

/-- What the memory tells of a slice's length. -/
theorem k_len {E : Env} {co : Code} {Q : Exit → KPred} {sl : Slots} {ch : List Chunk} {α : Type} {enc : α → List Value} {l : List α} {a : Option Addr} {n c sz : Nat} (h : n = l.length → KWp E co Q sl ch)
    (hm : (⟨.slice a n c, sz, l.map enc⟩ : Chunk) ∈ E.ro ++ ch := by repeat (first | exact mh | apply mt | apply mas | apply ms)) : KWp E co Q sl ch := kwp_len hm (fun hn => h (by rw [hn, List.length_map]))
theorem kops_skipU {E : Env} {ops : Array Oper} {Q : Exit → KPred} {o : Oper} {l : List Oper} {sl : Slots} {ch : List Chunk} {j d : Nat} {want : Bool}
    (hR : KOps E ops Q l (putS o.dst undef sl) ch) (hg : o.guard = some (j, want) := by rfl) (hj : (ops[j]?).bind (·.dst) = some d := by rfl) (hb : kev E.N sl (.tmp d) = some undef := by rfl) : KOps E ops Q (o :: l) sl ch := by
  intro a w hi
  have hv := hi.kn.ev hb
  have hyl : yielded ops a.tmps j = none := by
    simp only [yielded, hj, Option.bind_some]
    simp only [Act.eval, Array.getD_eq_getD_getElem?] at hv
    cases h : a.tmps[d]? with
    | none => rfl
    | some x =>
      rw [h] at hv
      simp only [Option.getD_some] at hv
      subst hv
      rfl
  unfold wpList
  rw [if_neg (by simp [Region.wanted, hg, hyl])]
  exact hR _ w ⟨hi.kn.put _ _, hi.st, hi.ext⟩
/-- Nothing but headers is forgotten. -/
theorem kwp_cutS {E : Env} {x : Code} {Q : Exit → KPred} {sl : Slots} {ch : List Chunk} {H : Type} (inv : Slots) (S : H → Slots) (C : H → List Chunk) (p : H → Prop) [i : MonoN Q]
    (hx : KWp E x (KThen (fun sl' ch' => ∃ η, Hd (S η ++ inv) (C η) (p η) sl' ch') Q) sl ch) (hy : ∀ η, p η → Q .normal (S η ++ inv) (C η)) : KWp E x Q sl ch := by
  refine kwp_mono hx ?_
  intro e s c q
  cases e <;> first | (obtain ⟨η, hh⟩ := q; exact i.go hh.s hh.c (hy η hh.p)) | exact q
/-- The address of a part of a slice. -/
def subA (a : Option Addr) (c sz l : Nat) : Option Addr := if c = l then a else a.map (·.add (l * sz))
theorem view_cut {α : Type} {enc : α → List Value} {L : List α} {a : Option Addr} {n c sz l h : Nat} (hlh : l ≤ h) (hn : h ≤ n) : View ⟨.slice a n c, sz, L.map enc⟩ ⟨.slice (subA a c sz l) (h - l) (c - l), sz, ((L.drop l).take (h - l)).map enc⟩ := by
  have e : ((L.drop l).take (h - l)).map enc = ((L.map enc).drop l).take (h - l) := by rw [List.map_take, List.map_drop]
  rw [e]; exact View.cut hlh hn
theorem In.view {E : Env} {sl : Slots} {ch : List Chunk} {c0 c : Chunk} {a : Act} {w : World} (hv : View c0 c) (hm : c0 ∈ E.ro) (hi : In E sl ch a w) : In { E with ro := c :: E.ro } sl ch a w := by
  have h0 := hv w (hi.st.rok _ hm)
  exact ⟨hi.kn, ⟨fun d hd => by rcases List.mem_cons.1 hd with rfl | hd; exact h0.1; exact hi.st.rok _ hd, hi.st.wok, hi.st.pw, fun d hd e he b hb => by
    rcases List.mem_cons.1 hd with rfl | hd
    · exact hi.st.rs _ hm _ he _ (h0.2 b hb)
    · exact hi.st.rs _ hd _ he _ hb⟩, hi.ext⟩
theorem In.unview {E : Env} {sl : Slots} {ch : List Chunk} {c : Chunk} {a : Act} {w : World} (hi : In { E with ro := c :: E.ro } sl ch a w) : In E sl ch a w :=
  ⟨hi.kn, ⟨fun d hd => hi.st.rok _ (List.mem_cons_of_mem _ hd), hi.st.wok, hi.st.pw, fun d hd => hi.st.rs _ (List.mem_cons_of_mem _ hd)⟩, hi.ext⟩
theorem post_unview {E : Env} {Q : Exit → KPred} {c : Chunk} {e : Exit} {a : Act} {w : World} (h : post { E with ro := c :: E.ro } Q e a w) : post E Q e a w := by
  obtain ⟨s, cc, q, i⟩ := h
  exact ⟨s, cc, q, i.unview⟩
/-- A part of what may be read may be read. -/
theorem kwp_view {E : Env} {x : Code} {Q : Exit → KPred} {sl : Slots} {ch : List Chunk} {c0 c : Chunk} (hv : View c0 c) (h : KWp { E with ro := c :: E.ro } x Q sl ch) (hm : c0 ∈ E.ro := by repeat (first | exact mh | apply mt | apply mas | apply ms)) : KWp E x Q sl ch :=
  fun a w hi => Code.wp_mono (fun _ _ _ q => post_unview q) (h a w (hi.view hv hm))
section
variable {P : Program} {N : Nat} {ro ch : List Chunk} {o : Oper} {sl : Slots}
theorem v_nc {x : Operand} {p : Addr} (ho : o.op = .nilCheck x := by rfl) (hx : kev N sl x = some (.pointer (some p)) := by rfl) : OpV P N ro ch o sl (.pointer (some p)) :=
  fun a w hkn _ => by unfold execOp; simp [ho, hkn.ev hx]
end

section
variable {P : Program} {N : Nat} {ro ch rest : List Chunk} {o : Oper} {sl : Slots} {R : KPred}
theorem n_call {f : FuncId} {xs : Array Operand} {ts : Array TypeId} {vs : List Value} {roC rwC : List Chunk} {G : Value → List Chunk → Prop}
    (hcall : ∀ (args : Array Value) (w : World), (callFunc f args).run P w = .ok (.enter f args) w) (ht : Triple P f vs roC rwC G)  
    (h : ∀ r c', G r c' → R (putS o.dst r sl) (c' ++ rest)) (ho : o.op = .call { callee := .value (.func f), args := xs, argTypes := ts } := by rfl) (hx : xs.toList.map (kev N sl) = vs.map some := by rfl) (hp : ch.Perm (rwC ++ rest) := by first | exact perm_nil _ | exact (perm_cons (by repeat (first | exact Pick.here | apply Pick.there | apply Pick.seg)) (perm_nil _)) | exact (perm_cons (by repeat (first | exact Pick.here | apply Pick.there | apply Pick.seg)) (perm_cons (by repeat (first | exact Pick.here | apply Pick.there | apply Pick.seg)) (perm_nil _))) | exact (perm_cons (by repeat (first | exact Pick.here | apply Pick.there | apply Pick.seg)) (perm_cons (by repeat (first | exact Pick.here | apply Pick.there | apply Pick.seg)) (perm_cons (by repeat (first | exact Pick.here | apply Pick.there | apply Pick.seg)) (perm_nil _)))) | exact (perm_cons (by repeat (first | exact Pick.here | apply Pick.there | apply Pick.seg)) (perm_cons (by repeat (first | exact Pick.here | apply Pick.there | apply Pick.seg)) (perm_cons (by repeat (first | exact Pick.here | apply Pick.there | apply Pick.seg)) (perm_cons (by repeat (first | exact Pick.here | apply Pick.there | apply Pick.seg)) (perm_nil _))))) | exact (perm_mat (by repeat (first | exact Pick.here | apply Pick.there | apply Pick.seg)) (by repeat (first | exact PickSeg.here | exact PickSeg.all | apply PickSeg.there | apply PickSeg.seg))) | exact (perm_cons2 (by repeat (first | exact Pick.here | apply Pick.there | apply Pick.seg)) (perm_mat (by repeat (first | exact Pick.here | apply Pick.there | apply Pick.seg)) (by repeat (first | exact PickSeg.here | exact PickSeg.all | apply PickSeg.there | apply PickSeg.seg))))) (hv : Views (ro ++ rest) roC := by (repeat (first | exact Views.nil _ | refine Views.cons (by repeat (first | exact mh | apply mt | apply mas | apply ms)) (View.refl _) ?_ | refine Views.seg (by repeat (first | exact sub_here | exact sub_self | apply sub_there | apply sub_assoc | apply sub_seg)) ?_ | exact Views.seg0 (by repeat (first | exact sub_here | exact sub_self | apply sub_there | apply sub_assoc | apply sub_seg))))) : OpK P N ro o sl ch R := opk_call ho hcall hx ht hp hv h
end

section
variable {fn : Func} {P : Program} {ro ch : List Chunk} {R : Value → List Chunk → Prop} {sl : Slots}
theorem r1 {t : Nat} {v : Value} (ch' : List Chunk)  (hR : R v ch') (hr : fn.results = #[.tmp t] := by rfl) (hs : Sub ch' ch := by (repeat (first | exact Sub.refl _ | exact Sub.nil _ | refine Sub.chunk (by repeat (first | exact Pick.here | apply Pick.there | apply Pick.seg)) (by rfl) ?_ | refine Sub.seg (by repeat (first | exact PickSeg.here | exact PickSeg.all | apply PickSeg.there | apply PickSeg.seg)) ?_ | exact Sub.seg0 (by repeat (first | exact PickSeg.here | exact PickSeg.all | apply PickSeg.there | apply PickSeg.seg)) | apply Sub.assoc))) (hv : kev fn.ntmps sl (.tmp t) = some v := by rfl) : KBody fn P ro R .ret sl ch := kret1 ch' hr hv hR hs
theorem r2 {t u : Nat} {v x : Value} (ch' : List Chunk)  (hR : R (.tuple #[v, x]) ch') (hr : fn.results = #[.tmp t, .tmp u] := by rfl) (hs : Sub ch' ch := by (repeat (first | exact Sub.refl _ | exact Sub.nil _ | refine Sub.chunk (by repeat (first | exact Pick.here | apply Pick.there | apply Pick.seg)) (by rfl) ?_ | refine Sub.seg (by repeat (first | exact PickSeg.here | exact PickSeg.all | apply PickSeg.there | apply PickSeg.seg)) ?_ | exact Sub.seg0 (by repeat (first | exact PickSeg.here | exact PickSeg.all | apply PickSeg.there | apply PickSeg.seg)) | apply Sub.assoc))) (hv : kev fn.ntmps sl (.tmp t) = some v := by rfl) (hx : kev fn.ntmps sl (.tmp u) = some x := by rfl) : KBody fn P ro R .ret sl ch := kret2 ch' hr hv hx hR hs
theorem r3 {t u s : Nat} {v x y : Value} (ch' : List Chunk)  (hR : R (.tuple #[v, x, y]) ch') (hr : fn.results = #[.tmp t, .tmp u, .tmp s] := by rfl) (hs : Sub ch' ch := by (repeat (first | exact Sub.refl _ | exact Sub.nil _ | refine Sub.chunk (by repeat (first | exact Pick.here | apply Pick.there | apply Pick.seg)) (by rfl) ?_ | refine Sub.seg (by repeat (first | exact PickSeg.here | exact PickSeg.all | apply PickSeg.there | apply PickSeg.seg)) ?_ | exact Sub.seg0 (by repeat (first | exact PickSeg.here | exact PickSeg.all | apply PickSeg.there | apply PickSeg.seg)) | apply Sub.assoc))) (hv : kev fn.ntmps sl (.tmp t) = some v := by rfl) (hx : kev fn.ntmps sl (.tmp u) = some x := by rfl) (hy : kev fn.ntmps sl (.tmp s) = some y := by rfl) : KBody fn P ro R .ret sl ch := kret3 ch' hr hv hx hy hR hs
theorem r0 (ch' : List Chunk)  (hR : R (.tuple #[]) ch') (hr : fn.results = #[] := by rfl) (hs : Sub ch' ch := by (repeat (first | exact Sub.refl _ | exact Sub.nil _ | refine Sub.chunk (by repeat (first | exact Pick.here | apply Pick.there | apply Pick.seg)) (by rfl) ?_ | refine Sub.seg (by repeat (first | exact PickSeg.here | exact PickSeg.all | apply PickSeg.there | apply PickSeg.seg)) ?_ | exact Sub.seg0 (by repeat (first | exact PickSeg.here | exact PickSeg.all | apply PickSeg.there | apply PickSeg.seg)) | apply Sub.assoc))) : KBody fn P ro R .ret sl ch := kret0 ch' hr hR hs
theorem r0n (ch' : List Chunk)  (hR : R (.tuple #[]) ch') (hr : fn.results = #[] := by rfl) (hs : Sub ch' ch := by (repeat (first | exact Sub.refl _ | exact Sub.nil _ | refine Sub.chunk (by repeat (first | exact Pick.here | apply Pick.there | apply Pick.seg)) (by rfl) ?_ | refine Sub.seg (by repeat (first | exact PickSeg.here | exact PickSeg.all | apply PickSeg.there | apply PickSeg.seg)) ?_ | exact Sub.seg0 (by repeat (first | exact PickSeg.here | exact PickSeg.all | apply PickSeg.there | apply PickSeg.seg)) | apply Sub.assoc))) : KBody fn P ro R .normal sl ch := kend0 ch' hr hR hs
theorem rc {t : Nat} {ty : TypeId} {p : Addr} {sz : Nat} {e : List Value} (hag : ∀ w, (isAgg ty).run P w = .ok true w) (hsz : ∀ w, (sizeOf ty).run P w = .ok sz w) (ch' : List Chunk)
      (hR : R (.agg e.toArray) ch') (hr : fn.results = #[.cell t ty] := by rfl) (ht : kev fn.ntmps sl (.tmp t) = some (.pointer (some p)) := by rfl) (hm : (⟨.pointer (some p), sz, [e]⟩ : Chunk) ∈ ro ++ ch := by repeat (first | exact mh | apply mt | apply mas | apply ms)) (hs : Sub ch' ch := by (repeat (first | exact Sub.refl _ | exact Sub.nil _ | refine Sub.chunk (by repeat (first | exact Pick.here | apply Pick.there | apply Pick.seg)) (by rfl) ?_ | refine Sub.seg (by repeat (first | exact PickSeg.here | exact PickSeg.all | apply PickSeg.there | apply PickSeg.seg)) ?_ | exact Sub.seg0 (by repeat (first | exact PickSeg.here | exact PickSeg.all | apply PickSeg.there | apply PickSeg.seg)) | apply Sub.assoc))) : KBody fn P ro R .ret sl ch := kretc ch' hr ht hag hsz hm hR hs
theorem rc4 {t u s q z : Nat} {ty : TypeId} {p : Addr} {sz : Nat} {e : List Value} {x y x2 y2 : Value} (hag : ∀ w, (isAgg ty).run P w = .ok true w) (hsz : ∀ w, (sizeOf ty).run P w = .ok sz w) (ch' : List Chunk)
    (hR : R (.tuple #[.agg e.toArray, x, y, x2, y2]) ch') (hr : fn.results = #[.cell t ty, .tmp u, .tmp s, .tmp q, .tmp z] := by rfl) (ht : kev fn.ntmps sl (.tmp t) = some (.pointer (some p)) := by rfl) (hx : kev fn.ntmps sl (.tmp u) = some x := by rfl) (hy : kev fn.ntmps sl (.tmp s) = some y := by rfl)
    (hx2 : kev fn.ntmps sl (.tmp q) = some x2 := by rfl) (hy2 : kev fn.ntmps sl (.tmp z) = some y2 := by rfl)
    (hm : (⟨.pointer (some p), sz, [e]⟩ : Chunk) ∈ ro ++ ch := by repeat (first | exact mh | apply mt | apply mas | apply ms))
    (hs : Sub ch' ch := by (repeat (first | exact Sub.refl _ | exact Sub.nil _ | refine Sub.chunk (by repeat (first | exact Pick.here | apply Pick.there | apply Pick.seg)) (by rfl) ?_ | refine Sub.seg (by repeat (first | exact PickSeg.here | exact PickSeg.all | apply PickSeg.there | apply PickSeg.seg)) ?_ | exact Sub.seg0 (by repeat (first | exact PickSeg.here | exact PickSeg.all | apply PickSeg.there | apply PickSeg.seg)) | apply Sub.assoc))) : KBody fn P ro R .ret sl ch :=
  ⟨_, ch', fun a w hk hst => by
    have := cell_run ht hag hsz hm a w hk hst
    have h2 := hk.ev hx
    have h3 := hk.ev hy
    have h4 := hk.ev hx2
    have h5 := hk.ev hy2
    simp only [Act.eval, Array.getD_eq_getD_getElem?] at h2 h3 h4 h5
    simp only [Array.getD_eq_getD_getElem?, Sem.run_bind] at this
    simp only [results, hr]
    simp [h2, h3, h4, h5]
    generalize (asAddr (a.tmps[t]?.getD undef)).run P w = r at this ⊢
    cases r with
    | ok ad w1 =>
      simp only [Result.andThen_ok] at this ⊢
      rw [this]; rfl
    | halt h w1 => simp at this, hR, hs⟩
end
end Go.Proofs.YtpfijnklnljccaaDoor

namespace Go.Proofs.YtpfijnklnljccaaDoor
open Go
set_option linter.unusedVariables false
set_option linter.unusedSimpArgs false

theorem k_isnil {E : Env} {co : Code} {Q : Exit → KPred} {sl : Slots} {ch : List Chunk} {α : Type} {enc : α → List Value} {l : List α} {a : Option Addr} {n c sz : Nat} (ha : a.isNone = true) (h : l = [] → KWp E co Q sl ch)
    (hm : (⟨.slice a n c, sz, l.map enc⟩ : Chunk) ∈ E.ro ++ ch := by repeat (first | exact mh | apply mt | apply mas | apply ms)) : KWp E co Q sl ch := fun ac w hi => h (by
  have hk := mem_ok hi.st hm
  obtain ⟨_, _, h2⟩ := hk
  cases a with
  | none => obtain ⟨_, _, h3⟩ := h2; simpa using h3
  | some ad => cases ha) ac w hi

section
variable {P : Program} {N : Nat} {ro ch : List Chunk} {o : Oper} {sl : Slots} {R : KPred}
theorem storeCells_add {P : Program} {a : Addr} (hs : a.spot = none) : ∀ (vs : List Value) (k i : Nat) (w : World), (storeCells (a.add k) vs i).run P w = (storeCells a vs (k + i)).run P w
  | [], _, _, _ => rfl
  | v :: vs, k, i, w => by
    unfold storeCells
    rw [add_add hs]
    simp only [Sem.run_bind]
    congr 1
    funext _ w'
    exact storeCells_add hs vs k (i + 1) w'
/-- copy into a part of a slice of the call's own. -/
theorem opk_copyp {t u e : TypeId} {x y : Operand} {sz : Nat} {a b : Option Addr} {n c l h m c2 : Nat} {es es2 : List (List Value)} {r : List Chunk} (hlh : l ≤ h) (hhn : h ≤ n) (ho : o.op = .call { callee := .builtin .copy, args := #[x, y], argTypes := #[t, u] })
    (hx : kev N sl x = some (.slice (subA a c sz l) (h - l) (c - l))) (hy : kev N sl y = some (.slice b m c2))
    (ht : ∀ w, (underlying t).run P w = .ok (.slice e) w) (hsz : ∀ w, (sizeOf e).run P w = .ok sz w)
    (hm : (⟨.slice b m c2, sz, es2⟩ : Chunk) ∈ ro ++ ch) (hone : ∀ e ∈ es2, ∀ u ∈ e, u.oneCell' = true) (hp : Pick ch ⟨.slice a n c, sz, es⟩ r)
    (hR : R (putS o.dst (.int .i64 ((min m (h - l) : Nat) : Int)) sl) (⟨.slice a n c, sz, es.take l ++ (es2.take (min m (h - l)) ++ es.drop (l + min m (h - l)))⟩ :: r)) : OpK P N ro o sl ch R := by
  intro ac w hkn hs K Q hK
  have hok := hs.wok _ hp.mem
  have hok2 := mem_ok hs hm
  obtain ⟨p0, p1, p2⟩ := hok
  obtain ⟨q0, q1, q2⟩ := hok2
  simp only at p0 p1 p2 q0 q1 q2
  have hnl : n = es.length := by
    cases a with
    | none => obtain ⟨f1, _, f3⟩ := p2; subst f3; simpa using f1
    | some ad => exact p2.1
  have hml : m = es2.length := by
    cases b with
    | none => obtain ⟨f1, _, f3⟩ := q2; subst f3; simpa using f1
    | some ad => exact q2.1
  generalize hk : min m (h - l) = k at *
  have hall : ∀ e ∈ es.take l ++ (es2.take k ++ es.drop (l + k)), e.length = sz := fun e he => by
    rcases List.mem_append.1 he with h | h
    · exact p1 e (List.mem_of_mem_take h)
    · rcases List.mem_append.1 h with h | h
      · exact q1 e (List.mem_of_mem_take h)
      · exact p1 e (List.mem_of_mem_drop h)
  have hlen : (es.take l ++ (es2.take k ++ es.drop (l + k))).length = es.length := by
    simp only [List.length_append, List.length_take, List.length_drop]; omega
  have htk : ∀ e ∈ es2.take k, e.length = sz := fun e he => q1 e (List.mem_of_mem_take he)
  have htkl : (es2.take k).flatten.length = k * sz := by
    rw [flat_length htk]; congr 1; simp; omega
  have hfin : ∀ (w' : World), (Builtin.copy_ #[t, u] o.type #[.slice (subA a c sz l) (h - l) (c - l), .slice b m c2]).run P w = .ok (goInt (k : Nat)) w' →
      (⟨.slice a n c, sz, es.take l ++ (es2.take k ++ es.drop (l + k))⟩ : Chunk).ok w' true → (w'.os = w.os ∧ w'.tape = w.tape ∧ w'.output = w.output) → w.heap.size ≤ w'.heap.size → (∀ b, b < w.heap.size → (⟨.slice a n c, sz, es⟩ : Chunk).blk ≠ some b → w'.heap[b]? = w.heap[b]?) → o.wp P ac w K Q := by
    intro w' hr hd he h1 h2
    obtain ⟨s1, s2⟩ := hs.repl hp hd he h1 h2 (fun b hb _ => hb)
    have h0 : (execOp ac.eval o).run P w = .ok (.value (.int .i64 ((k : Nat) : Int))) w' := by
      unfold execOp
      simp only [ho, resolve, invoke, builtin, Sem.run_bind, Sem.run_pure, Result.andThen_ok, List.map_toArray, List.map_cons, List.map_nil, hkn.ev hx, hkn.ev hy, hr]
      rfl
    unfold Oper.wp
    rw [h0]
    exact hK _ _ _ _ hR (hkn.put _ _) s1 s2
  have hcells : (Builtin.firstCells sz k (.slice b m c2)).run P w = .ok (es2.take k).flatten.toArray w := by
    cases b with
    | none =>
      obtain ⟨f1, f2, f3⟩ := q2
      subst f1 f2 f3
      simp [Builtin.firstCells]
    | some bd =>
      have := run_firstCells_some (P := P) w sz k bd m c2 (es2.take k).flatten htkl (fun j v hj => by
        have hjl := (List.getElem?_eq_some_iff.1 hj).1
        have hpos : 0 < es2.length := by
          rcases Nat.eq_zero_or_pos es2.length with h | h
          · have : es2 = [] := List.eq_nil_of_length_eq_zero h
            subst this; simp at hjl
          · exact h
        refine (q2.2.2 (by have := q2.1; have := q2.2.1; omega)).cell ?_
        have h2 : es2 = es2.take k ++ es2.drop k := (List.take_append_drop _ _).symm
        rw [h2, List.flatten_append, List.getElem?_append_left (List.getElem?_eq_some_iff.1 hj).1]
        exact hj)
      exact this
  have h3 : Nat.min m (h - l) = k := hk
  cases a with
  | none =>
    obtain ⟨e1, e2, e3⟩ := p2
    subst e1 e2 e3
    have hl0 : l = 0 := by omega
    have hk0 : k = 0 := by omega
    subst hl0 hk0
    refine hfin w ?_ ⟨p0, by simp, by simp⟩ ⟨rfl, rfl, rfl⟩ (Nat.le_refl _) (fun _ _ _ => rfl)
    rw [show (es2.take 0).flatten.toArray = #[] by simp] at hcells
    have hsub : subA (none : Option Addr) 0 sz 0 = none := by unfold subA; split <;> rfl
    rw [hsub]
    have h4 : Nat.min m h = 0 := h3
    simp [Builtin.copy_, ht, hsz, Builtin.lenOf, hcells, h4]
  | some ad =>
    by_cases hk0 : k = 0
    · subst hk0
      have e0 : es.take l ++ (es2.take 0 ++ es.drop (l + 0)) = es := by simp
      rw [e0] at hfin
      refine hfin w ?_ ⟨p0, p1, p2⟩ ⟨rfl, rfl, rfl⟩ (Nat.le_refl _) (fun _ _ _ => rfl)
      simp [Builtin.copy_, ht, hsz, Builtin.lenOf, h3] at hcells ⊢
      simp [hcells]
      split <;> simp [storeCells]
    have hlc : l < c := by have := p2.2.1; omega
    have hrow := p2.2.2 (by omega)
    have hspot := hrow.1
    have hle : l * sz + (es2.take k).flatten.length ≤ es.flatten.length := by
      rw [htkl, flat_length p1, ← Nat.add_mul]; exact Nat.mul_le_mul_right _ (by omega)
    obtain ⟨w', hr, hrow', hsize, hoth, henv⟩ := run_storeAll P (es2.take k).flatten es.flatten (l * sz) ad (c * sz) w hrow hle (fun v hv => by
      obtain ⟨e, he, hve⟩ := List.mem_flatten.1 hv
      exact hone e (List.mem_of_mem_take he) v hve)
    have hr' : (storeCells (ad.add (l * sz)) (es2.take k).flatten).run P w = .ok () w' := by
      rw [storeCells_add hspot]; exact hr
    refine hfin w' ?_ ⟨p0, hall, ?_⟩ henv (by omega) (fun b _ hb => hoth b (fun e => hb (by simp only [Chunk.blk, blkOf]; rw [if_neg (by omega), e])))
    · have hsub : subA (some ad) c sz l = some (ad.add (l * sz)) := by unfold subA; rw [if_neg (by omega)]; rfl
      simp [Builtin.copy_, ht, hsz, Builtin.lenOf, h3, hcells, hsub, hr']
    · refine ⟨by rw [hlen]; exact p2.1, p2.2.1, fun _ => ?_⟩
      have e1 : (es.take l ++ (es2.take k ++ es.drop (l + k))).flatten = es.flatten.take (l * sz) ++ (es2.take k).flatten ++ es.flatten.drop (l * sz + (es2.take k).flatten.length) := by
        have ht1 : (es.take l).flatten = es.flatten.take (l * sz) := by
          have h1 : es = es.take l ++ es.drop l := (List.take_append_drop _ _).symm
          have h2 : (es.take l).flatten.length = l * sz := by
            rw [flat_length (fun e he => p1 e (List.mem_of_mem_take he))]; congr 1; simp; omega
          conv => rhs; rw [h1, List.flatten_append, ← h2, List.take_left']
        rw [List.flatten_append, List.flatten_append, flat_sub p1, htkl, ht1, Nat.add_mul, List.append_assoc]
      rw [e1]
      exact hrow'
theorem n_copyp {α : Type} {enc : α → List Value} {L m : List α} {t u e : TypeId} {x y : Operand} {sz : Nat} {a b : Option Addr} {n c l h q c2 : Nat} {r : List Chunk} (hlh : l ≤ h) (hhn : h ≤ n) (hone : ∀ x, ∀ u ∈ enc x, u.oneCell' = true)
    (ht : ∀ w, (underlying t).run P w = .ok (.slice e) w) (hsz : ∀ w, (sizeOf e).run P w = .ok sz w)
    (hR : R (putS o.dst (.int .i64 ((min q (h - l) : Nat) : Int)) sl) (⟨.slice a n c, sz, (L.take l ++ (m.take (min q (h - l)) ++ L.drop (l + min q (h - l)))).map enc⟩ :: r))
    (ho : o.op = .call { callee := .builtin .copy, args := #[x, y], argTypes := #[t, u] } := by rfl) (hx : kev N sl x = some (.slice (subA a c sz l) (h - l) (c - l)) := by rfl) (hy : kev N sl y = some (.slice b q c2) := by rfl) (hm : (⟨.slice b q c2, sz, m.map enc⟩ : Chunk) ∈ ro ++ ch := by repeat (first | exact mh | apply mt | apply mas | apply ms)) (hp : Pick ch ⟨.slice a n c, sz, L.map enc⟩ r := by repeat (first | exact Pick.here | apply Pick.there | apply Pick.seg)) : OpK P N ro o sl ch R := by
  refine opk_copyp hlh hhn ho hx hy ht hsz hm (ok_map hone) hp ?_
  rw [List.map_append, List.map_append, List.map_take, List.map_take, List.map_drop] at hR
  exact hR

/-- All cells that there is room for have something. -/
theorem RowOk.fill {w : World} {rw : Bool} {a : Addr} {cs : List Value} {m : Nat} (h : RowOk w rw a cs m) : ∃ c2, RowOk w rw a c2 m ∧ c2.length = m ∧ c2.take cs.length = cs := by
  obtain ⟨hs, arr, el, fz, hh, hfz, hm, hcl, hv⟩ := h
  refine ⟨(arr.toList.drop a.off).take m, ⟨hs, arr, el, fz, hh, hfz, hm, by simp; omega, fun j v hj => ?_⟩, by simp; omega, ?_⟩
  · rw [List.getElem?_take] at hj
    split at hj
    · rw [List.getElem?_drop, Array.getElem?_toList] at hj; exact hj
    · cases hj
  · apply List.ext_getElem?
    intro j
    by_cases hj : j < cs.length
    · rw [List.getElem?_take, if_pos hj, List.getElem?_take, if_pos (by omega), List.getElem?_drop, Array.getElem?_toList, hv j cs[j] (by simp [hj])]
      simp [hj]
    · rw [List.getElem?_take, if_neg hj, List.getElem?_eq_none (by omega)]
end
end Go.Proofs.YtpfijnklnljccaaDoor

namespace Go.Proofs.YtpfijnklnljccaaDoor
open Go

structure Leg where
  f : Int
  t : Int
  e : Int
  n : Int
  u : Int
deriving DecidableEq, Inhabited
structure Way where
  e : Int
  n : Int
  u : Int
deriving DecidableEq, Inhabited
structure Step where
  i : Int
  b : Bool
deriving DecidableEq, Inhabited
structure Airway where
  f : Int
  t : Int
  w : Int
deriving DecidableEq, Inhabited
structure Survey where
  st : Int
  legs : List Leg
deriving DecidableEq, Inhabited
structure Mine where
  p : Int
  aw : List Airway
deriving DecidableEq, Inhabited
/-- A reader of a code: its bytes, and where it is. -/
structure Rd where
  b : List UInt8
  p : Int

def encB (v : UInt8) : List Value := [.int .u8 v.toNat]
def encLeg (v : Leg) : List Value := [.int .i64 v.f, .int .i64 v.t, .int .i64 v.e, .int .i64 v.n, .int .i64 v.u]
def encStep (v : Step) : List Value := [.int .i64 v.i, .bool v.b]
def encAirway (v : Airway) : List Value := [.int .i64 v.f, .int .i64 v.t, .int .i64 v.w]
theorem ok_encI (x : Int) : ∀ u ∈ encI x, u.oneCell' = true := by simp [encI, Value.oneCell']
theorem ok_encLeg (x : Leg) : ∀ u ∈ encLeg x, u.oneCell' = true := by simp [encLeg, Value.oneCell']
theorem ok_encStep (x : Step) : ∀ u ∈ encStep x, u.oneCell' = true := by simp [encStep, Value.oneCell']
theorem ok_encAirway (x : Airway) : ∀ u ∈ encAirway x, u.oneCell' = true := by simp [encAirway, Value.oneCell']
end Go.Proofs.YtpfijnklnljccaaDoor
