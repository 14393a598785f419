/- Plain functions and small facts on numbers that the walks speak of. -/
import Derived.Test.YtfgialdcilldiaaKg
namespace Go.Proofs.Ytfgialdcilldiaa
open Go

def w64 (x : Int) : Int := IntKind.i64.wrap x

def isIx (x n : Int) : Bool := decide (0 ≤ x) && decide (x < n)
def inR (x a b : Int) : Bool := decide (a ≤ x) && decide (x ≤ b)

theorem isIx_t {x n : Int} (h : isIx x n = true) : 0 ≤ x ∧ x < n := by simpa [isIx] using h
theorem isIx_f {x n : Int} (h : isIx x n = false) : ¬ (0 ≤ x ∧ x < n) := by intro g; simp [isIx, g.1, g.2] at h
theorem inR_t {x a b : Int} (h : inR x a b = true) : a ≤ x ∧ x ≤ b := by simpa [inR] using h
theorem inR_f {x a b : Int} (h : inR x a b = false) : ¬ (a ≤ x ∧ x ≤ b) := by intro g; simp [inR, g.1, g.2] at h

structure Frac where
  num : Int
  den : Int
deriving DecidableEq

def fracFits (f : Frac) : Bool := inR f.num (-9999999) 9999999 && inR f.den 1 9999999
def fracLess (a b : Frac) : Bool := fracFits a && fracFits b && decide (IntKind.i64.wrap (a.num * b.den) < IntKind.i64.wrap (b.num * a.den))
def encFrac (f : Frac) : List Value := [.int .i64 f.num, .int .i64 f.den]
end Go.Proofs.Ytfgialdcilldiaa
