/- Valid mines, and matrices of links: both programs compute the same; no condition but the sizes. -/
import Derived.Test.YtnibfmofkamjoaaDoorLv
import Derived.Test.YtnibfmofkamjoaaDoorLa
import Derived.Test.YtnibfmofkamjoaaDoorQbw
namespace Go.Proofs.YtnibfmofkamjoaaDoor
open Go
set_option linter.unusedVariables false
set_option linter.unusedSimpArgs false

/-! ### Valid mines -/
def awOk (p : Int) (a : Airway) : Bool := decide (0 ≤ a.f) && decide (a.f < p) && decide (0 ≤ a.t) && decide (a.t < p) && !decide (a.f = a.t) && decide (1 ≤ a.w) && decide (a.w ≤ 6)
def mineOk (m : Mine) : Bool := decide (1 ≤ m.p) && decide (m.p ≤ 5) && decide (m.aw.length ≤ 7) && (List.range m.aw.length).all fun k => awOk m.p (gx m.aw k)
structure AwOk (p : Int) (a : Airway) : Prop where
  f0 : 0 ≤ a.f
  f1 : a.f < p
  t0 : 0 ≤ a.t
  t1 : a.t < p
  ne : a.f ≠ a.t
  w1 : 1 ≤ a.w
  w6 : a.w ≤ 6
structure MineOk (m : Mine) : Prop where
  p1 : 1 ≤ m.p
  p5 : m.p ≤ 5
  n7 : m.aw.length ≤ 7
  aw : ∀ k, k < m.aw.length → AwOk m.p (gx m.aw k)
theorem awOk_iff {p : Int} {a : Airway} : awOk p a = true ↔ AwOk p a := by
  simp only [awOk, Bool.and_eq_true, decide_eq_true_eq, Bool.not_eq_true', decide_eq_false_iff_not]
  constructor
  · rintro ⟨⟨⟨⟨⟨⟨h1, h2⟩, h3⟩, h4⟩, h5⟩, h6⟩, h7⟩; exact ⟨h1, h2, h3, h4, h5, h6, h7⟩
  · rintro ⟨h1, h2, h3, h4, h5, h6, h7⟩; exact ⟨⟨⟨⟨⟨⟨h1, h2⟩, h3⟩, h4⟩, h5⟩, h6⟩, h7⟩
theorem mineOk_iff {m : Mine} : mineOk m = true ↔ MineOk m := by
  simp only [mineOk, Bool.and_eq_true, decide_eq_true_eq, List.all_eq_true, List.mem_range, awOk_iff]
  constructor
  · rintro ⟨⟨⟨h1, h2⟩, h3⟩, h4⟩; exact ⟨h1, h2, h3, h4⟩
  · rintro ⟨h1, h2, h3, h4⟩; exact ⟨⟨⟨h1, h2⟩, h3⟩, h4⟩

def specAw (p : Int) (a : Airway) : Bool := decide (0 ≤ a.f) && decide (a.f ≤ w64 (p - 1)) && decide (0 ≤ a.t) && decide (a.t ≤ w64 (p - 1)) && !decide (a.f = a.t) && decide (1 ≤ a.w) && decide (a.w ≤ 6)
/-- What a link of some width adds to an entry. -/
def lk (a : Airway) (i j : Nat) : Int :=
  if i = j then (if a.f = (i : Int) + 1 then a.w else 0) + (if a.t = (i : Int) + 1 then a.w else 0)
  else -((if a.f = (i : Int) + 1 ∧ a.t = (j : Int) + 1 then a.w else 0) + (if a.t = (i : Int) + 1 ∧ a.f = (j : Int) + 1 then a.w else 0))
def lks (l : List Airway) (i j : Nat) : Int := (l.map fun a => lk a i j).sum
theorem lk_bd {p : Int} {a : Airway} (h : AwOk p a) (i j : Nat) : -6 ≤ lk a i j ∧ lk a i j ≤ 6 := by
  have h1 := h.w1; have h2 := h.w6; have h3 := h.ne
  unfold lk
  split
  · split <;> split <;> omega
  · split <;> split <;> omega
theorem lks_bd {p : Int} {l : List Airway} (h : ∀ k, k < l.length → AwOk p (gx l k)) (i j : Nat) : -(6 * (l.length : Int)) ≤ lks l i j ∧ lks l i j ≤ 6 * (l.length : Int) := by
  induction l with
  | nil => simp [lks]
  | cons a l ih =>
    have h0 := lk_bd (h 0 (by simp)) i j
    have h1 := ih (fun k hk => by have := h (k + 1) (by simp; omega); rwa [gx_succ] at this)
    rw [gx_zero] at h0
    simp only [lks, List.map_cons, List.sum_cons, List.length_cons] at h1 ⊢
    omega
theorem lks_take {l : List Airway} {k : Nat} (h : k < l.length) (i j : Nat) : lks (l.take (k + 1)) i j = lks (l.take k) i j + lk (gx l k) i j := by
  unfold lks; rw [take_gx h]; simp
end Go.Proofs.YtnibfmofkamjoaaDoor
