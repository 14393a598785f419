/- Plain functions and small facts on numbers that the walks speak of. -/
import Derived.Test.YtfgialdcilldiaaKg
namespace Go.Proofs.Ytfgialdcilldiaa
open Go

def w64 (x : Int) : Int := IntKind.i64.wrap x

def isIx (x n : Int) : Bool := decide (0 ≤ x) && decide (x < n)
def inR (x a b : Int) : Bool := decide (a ≤ x) && decide (x ≤ b)

theorem isIx_t {x n : Int} (h : isIx x n = true) : 0 ≤ x ∧ x < n := by simpa [isIx] using h
theorem isIx_f {x n : Int} (h : isIx x n = false) : ¬ (0 ≤ x ∧ x < n) := by intro g; simp [isIx, g.1, g.2] at h
theorem inR_t {x a b : Int} (h : inR x a b = true) : a ≤ x ∧ x ≤ b := by simpa [inR] using h
theorem inR_f {x a b : Int} (h : inR x a b = false) : ¬ (a ≤ x ∧ x ≤ b) := by intro g; simp [inR, g.1, g.2] at h

structure Frac where
  num : Int
  den : Int
deriving DecidableEq

def fracFits (f : Frac) : Bool := inR f.num (-9999999) 9999999 && inR f.den 1 9999999
def fracLess (a b : Frac) : Bool := fracFits a && fracFits b && decide (IntKind.i64.wrap (a.num * b.den) < IntKind.i64.wrap (b.num * a.den))
def encFrac (f : Frac) : List Value := [.int .i64 f.num, .int .i64 f.den]

structure Airway where
  f : Int
  t : Int
  w : Int
deriving DecidableEq
def encAirway (v : Airway) : List Value := [.int .i64 v.f, .int .i64 v.t, .int .i64 v.w]
def decAirway (l : List Int) : Airway := ⟨l.getD 0 0, l.getD 1 0, l.getD 2 0⟩
theorem decAirway_ok (ns : List Int) (h : ns.length = 3) : encAirway (decAirway ns) = ns.map (fun n => .int .i64 n) := by
  match ns, h with
  | [a, b, c], _ => rfl

structure Sill where
  a : Int
  b : Int
  high : Int
deriving DecidableEq
def encSill (v : Sill) : List Value := [.int .i64 v.a, .int .i64 v.b, .int .i64 v.high]
def decSill (l : List Int) : Sill := ⟨l.getD 0 0, l.getD 1 0, l.getD 2 0⟩
theorem decSill_ok (ns : List Int) (h : ns.length = 3) : encSill (decSill ns) = ns.map (fun n => .int .i64 n) := by
  match ns, h with
  | [a, b, c], _ => rfl

def encI (v : Int) : List Value := [.int .i64 v]

/-- What is left of a size when so many have been taken; -1 when it does not suffice. -/
def szL (n : Nat) (left : Int) : Int := if left - n < 0 then -1 else left - n

/-- A mine that may be spoken of. -/
def awOk (p : Int) (v : Airway) : Bool := isIx v.f p && isIx v.t p && !(v.f == v.t) && inR v.w 1 6
def mineOk (p : Int) (l : List Airway) : Bool := inR p 1 5 && decide (l.length ≤ 7) && l.all (awOk p)
theorem all_succ {α : Type} {q : α → Bool} {l : List α} {k : Nat} (h : (l.take k).all q = true) (hk : k < l.length) (h1 : q (l[k]'hk) = true) : (l.take (k + 1)).all q = true := by
  rw [List.take_succ_eq_append_getElem hk, List.all_append, h]
  simp [h1]

theorem all_done {α : Type} {q : α → Bool} {l : List α} {k : Nat} (h : (l.take k).all q = true) (hk : l.length ≤ k) : l.all q = true := by
  rwa [List.take_of_length_le hk] at h

theorem all_not {α : Type} {q : α → Bool} {l : List α} {k : Nat} (hk : k < l.length) (h1 : q (l[k]'hk) = false) : l.all q = false := by
  cases h : l.all q
  · rfl
  · have := List.all_eq_true.1 h _ (List.getElem_mem hk)
    rw [h1] at this; cases this

theorem mineOk_f {p : Int} {l : List Airway} {k : Nat} (hk : k < l.length) (h : awOk p (l[k]'hk) = false) : mineOk p l = false := by
  simp only [mineOk, all_not hk h, Bool.and_false]

theorem mineOk_t {p : Int} {l : List Airway} {k : Nat} (hp : 1 ≤ p ∧ p ≤ 5) (hl : l.length ≤ 7) (h : (l.take k).all (awOk p) = true) (hk : l.length ≤ k) : mineOk p l = true := by
  simp [mineOk, all_done h hk, inR, hp.1, hp.2, hl]
theorem mineOk_1 {p : Int} {l : List Airway} (h : ¬ (1 ≤ p ∧ p ≤ 5)) : mineOk p l = false := by
  simp only [mineOk, inR]
  by_cases h1 : 1 ≤ p
  · have : ¬ p ≤ 5 := fun h2 => h ⟨h1, h2⟩
    simp [this]
  · simp [h1]

theorem mineOk_2 {p : Int} {l : List Airway} (h : 7 < l.length) : mineOk p l = false := by
  have : ¬ l.length ≤ 7 := by omega
  simp [mineOk, this]

theorem szL_neg {n : Nat} {left : Int} (h : szL n left < 0) : szL n left = -1 := by
  unfold szL at *
  split at h
  · rw [if_pos (by assumption)]
  · omega
theorem awOk_t {p : Int} {v : Airway} (h1 : isIx v.f p = true) (h2 : isIx v.t p = true) (h3 : v.f ≠ v.t) (h4 : 1 ≤ v.w ∧ v.w ≤ 6) : awOk p v = true := by
  simp [awOk, h1, h2, h3, inR, h4.1, h4.2]
theorem awOk_1 {p : Int} {v : Airway} (h1 : isIx v.f p = false) : awOk p v = false := by simp [awOk, h1]
theorem awOk_2 {p : Int} {v : Airway} (h1 : isIx v.t p = false) : awOk p v = false := by simp [awOk, h1]
theorem awOk_3 {p : Int} {v : Airway} (h1 : v.f = v.t) : awOk p v = false := by simp [awOk, h1]
theorem awOk_4 {p : Int} {v : Airway} (h1 : ¬ (1 ≤ v.w ∧ v.w ≤ 6)) : awOk p v = false := by
  have : inR v.w 1 6 = false := by
    cases h : inR v.w 1 6
    · rfl
    · exact absurd (inR_t h) h1
  simp [awOk, this]
theorem isIx_of {x n : Int} (h : 0 ≤ x ∧ x < n) : isIx x n = true := by simp [isIx, h.1, h.2]
theorem isIx_no {x n : Int} (h : ¬ (0 ≤ x ∧ x < n)) : isIx x n = false := by
  cases e : isIx x n
  · rfl
  · exact absurd (isIx_t e) h
theorem mineOk_last {p : Int} {l : List Airway} {k : Nat} (hp : 1 ≤ p ∧ p ≤ 5) (h : (l.take k).all (awOk p) = true) (hk : l.length ≤ k) : mineOk p l = decide (l.length ≤ 7) := by
  simp [mineOk, all_done h hk, inR, hp.1, hp.2]
end Go.Proofs.Ytfgialdcilldiaa
