/- Plain functions and small facts on numbers that the walks speak of. -/
import Derived.Test.YtfgialdcilldiaaKg
namespace Go.Proofs.Ytfgialdcilldiaa
open Go
set_option linter.unusedVariables false
set_option linter.unusedSimpArgs false

def w64 (x : Int) : Int := IntKind.i64.wrap x

def isIx (x n : Int) : Bool := decide (0 ≤ x) && decide (x < n)
def inR (x a b : Int) : Bool := decide (a ≤ x) && decide (x ≤ b)

theorem isIx_t {x n : Int} (h : isIx x n = true) : 0 ≤ x ∧ x < n := by simpa [isIx] using h
theorem isIx_f {x n : Int} (h : isIx x n = false) : ¬ (0 ≤ x ∧ x < n) := by intro g; simp [isIx, g.1, g.2] at h
theorem inR_t {x a b : Int} (h : inR x a b = true) : a ≤ x ∧ x ≤ b := by simpa [inR] using h
theorem inR_f {x a b : Int} (h : inR x a b = false) : ¬ (a ≤ x ∧ x ≤ b) := by intro g; simp [inR, g.1, g.2] at h

/-! ### Lists of which the elements are told by numbers -/
def gx {α : Type} [Inhabited α] (l : List α) (k : Nat) : α := l.getD k default
theorem gx_eq {α : Type} [Inhabited α] {l : List α} {k : Nat} (h : k < l.length) : gx l k = l[k]'h := by simp [gx, h]
theorem gx_out {α : Type} [Inhabited α] {l : List α} {k : Nat} (h : l.length ≤ k) : gx l k = default := by simp [gx, h]
theorem gx_map {α : Type} [Inhabited α] {f : α → List Value} {l : List α} {i : Nat} (h : i < l.length) : (l.map f)[i]? = some (f (gx l i)) := by
  rw [gx_eq h]; simp [h]
theorem gx_set {α : Type} [Inhabited α] {l : List α} {i j : Nat} {x : α} (h : i < l.length) : gx (l.set i x) j = if i = j then x else gx l j := by
  unfold gx
  by_cases e : i = j
  · subst e; simp [h]
  · simp [e]
theorem gx_ext {α : Type} [Inhabited α] {l m : List α} (h : l.length = m.length) (h2 : ∀ k, k < l.length → gx l k = gx m k) : l = m := by
  apply List.ext_getElem h
  intro i h1 h3
  rw [← gx_eq h1, ← gx_eq h3]; exact h2 i h1
theorem gx_take {α : Type} [Inhabited α] {l : List α} {k j : Nat} (h : j < k) : gx (l.take k) j = gx l j := by
  unfold gx; simp [List.getElem?_take, h]
theorem gx_mem {α : Type} [Inhabited α] {l : List α} {k : Nat} (h : k < l.length) : gx l k ∈ l := by rw [gx_eq h]; exact List.getElem_mem h
theorem gx_app1 {α : Type} [Inhabited α] {l m : List α} {k : Nat} (h : k < l.length) : gx (l ++ m) k = gx l k := by unfold gx; simp [List.getElem?_append_left h]
theorem gx_app2 {α : Type} [Inhabited α] {l : List α} {x : α} : gx (l ++ [x]) l.length = x := by unfold gx; simp
theorem gx_rep {α : Type} [Inhabited α] {n k : Nat} {x : α} (h : k < n) : gx (List.replicate n x) k = x := by unfold gx; simp [h]
theorem take_gx {α : Type} [Inhabited α] {l : List α} {k : Nat} (h : k < l.length) : l.take (k + 1) = l.take k ++ [gx l k] := by rw [gx_eq h]; exact List.take_succ_eq_append_getElem h
theorem map_set' {α : Type} {f : α → List Value} {l : List α} {i : Nat} {x : α} {e : List Value} (h : f x = e) : (l.map f).set i e = (l.set i x).map f := by subst h; exact List.map_set.symm

/-- Whether something is so. -/
noncomputable def dec (p : Prop) : Bool := @decide p (Classical.propDecidable p)
theorem dec_t {p : Prop} (h : p) : dec p = true := by unfold dec; exact @decide_eq_true p (Classical.propDecidable p) h
theorem dec_f {p : Prop} (h : ¬ p) : dec p = false := by unfold dec; exact @decide_eq_false p (Classical.propDecidable p) h
theorem dec_tt {p : Prop} (h : dec p = true) : p := by unfold dec at h; exact @of_decide_eq_true p (Classical.propDecidable p) h
theorem dec_ff {p : Prop} (h : dec p = false) : ¬ p := by unfold dec at h; exact @of_decide_eq_false p (Classical.propDecidable p) h
theorem dec_eq {p : Prop} {i : Decidable p} : @decide p i = dec p := by unfold dec; congr

structure Frac where
  num : Int
  den : Int
deriving DecidableEq, Inhabited

def fracFits (f : Frac) : Bool := inR f.num (-9999999) 9999999 && inR f.den 1 9999999
def fracLess (a b : Frac) : Bool := fracFits a && fracFits b && decide (IntKind.i64.wrap (a.num * b.den) < IntKind.i64.wrap (b.num * a.den))
def encFrac (f : Frac) : List Value := [.int .i64 f.num, .int .i64 f.den]

structure Airway where
  f : Int
  t : Int
  w : Int
deriving DecidableEq, Inhabited
def encAirway (v : Airway) : List Value := [.int .i64 v.f, .int .i64 v.t, .int .i64 v.w]
def decAirway (l : List Int) : Airway := ⟨l.getD 0 0, l.getD 1 0, l.getD 2 0⟩
theorem decAirway_ok (ns : List Int) (h : ns.length = 3) : encAirway (decAirway ns) = ns.map (fun n => .int .i64 n) := by
  match ns, h with
  | [a, b, c], _ => rfl

structure Sill where
  a : Int
  b : Int
  high : Int
deriving DecidableEq, Inhabited
def encSill (v : Sill) : List Value := [.int .i64 v.a, .int .i64 v.b, .int .i64 v.high]
def decSill (l : List Int) : Sill := ⟨l.getD 0 0, l.getD 1 0, l.getD 2 0⟩
theorem decSill_ok (ns : List Int) (h : ns.length = 3) : encSill (decSill ns) = ns.map (fun n => .int .i64 n) := by
  match ns, h with
  | [a, b, c], _ => rfl

def encI (v : Int) : List Value := [.int .i64 v]

/-- What is left of a size when so many have been taken; -1 when it does not suffice. -/
def szL (n : Nat) (left : Int) : Int := if left - n < 0 then -1 else left - n

theorem szL_neg {n : Nat} {left : Int} (h : szL n left < 0) : szL n left = -1 := by
  unfold szL at *
  split at h
  · rw [if_pos (by assumption)]
  · omega
theorem isIx_of {x n : Int} (h : 0 ≤ x ∧ x < n) : isIx x n = true := by simp [isIx, h.1, h.2]
theorem isIx_no {x n : Int} (h : ¬ (0 ≤ x ∧ x < n)) : isIx x n = false := by
  cases e : isIx x n
  · rfl
  · exact absurd (isIx_t e) h
theorem upto {q : Nat → Prop} {k : Nat} (h : ∀ i, i < k → q i) (h1 : q k) : ∀ i, i < k + 1 → q i := by
  intro i hi
  by_cases e : i = k
  · subst e; exact h1
  · exact h i (by omega)
/-! ### Mines -/
structure AwOk (p : Int) (v : Airway) : Prop where
  f0 : 0 ≤ v.f
  f1 : v.f < p
  t0 : 0 ≤ v.t
  t1 : v.t < p
  ne : v.f ≠ v.t
  w1 : 1 ≤ v.w
  w6 : v.w ≤ 6
structure MineOk (p : Int) (l : List Airway) : Prop where
  p1 : 1 ≤ p
  p5 : p ≤ 5
  n7 : l.length ≤ 7
  aw : ∀ k, k < l.length → AwOk p (gx l k)
theorem mine_last {p : Int} {l : List Airway} (h1 : 1 ≤ p) (h5 : p ≤ 5) (h : ∀ k, k < l.length → AwOk p (gx l k)) : dec (MineOk p l) = decide (l.length ≤ 7) := by
  by_cases q : l.length ≤ 7
  · rw [decide_eq_true q, dec_t ⟨h1, h5, q, h⟩]
  · rw [decide_eq_false q, dec_f (fun h => q h.n7)]
structure FlowFits (n : Nat) (fl : List Int) : Prop where
  len : fl.length = n
  fit : ∀ k, k < n → -9999999 ≤ gx fl k ∧ gx fl k ≤ 9999999
theorem sq_bd {x : Int} (h : -9999999 ≤ x ∧ x ≤ 9999999) : 0 ≤ x * x ∧ x * x ≤ 99999980000001 := by
  obtain ⟨h1, h2⟩ := h
  refine ⟨?_, ?_⟩
  · rcases Int.le_total 0 x with h3 | h3
    · exact Int.mul_nonneg h3 h3
    · exact Int.mul_nonneg_of_nonpos_of_nonpos h3 h3
  · have : (9999999 - x) * (9999999 + x) = 99999980000001 - x * x := by grind
    have h4 : 0 ≤ (9999999 - x) * (9999999 + x) := Int.mul_nonneg (by omega) (by omega)
    omega
theorem base_bd {w : Int} (h1 : 1 ≤ w) (h6 : w ≤ 6) : 10 ≤ 60 / w ∧ 60 / w ≤ 60 := by
  have : w = 1 ∨ w = 2 ∨ w = 3 ∨ w = 4 ∨ w = 5 ∨ w = 6 := by omega
  rcases this with rfl | rfl | rfl | rfl | rfl | rfl <;> decide
theorem loss_bd {x w : Int} (h : -9999999 ≤ x ∧ x ≤ 9999999) (h1 : 1 ≤ w) (h6 : w ≤ 6) : 0 ≤ x * x * (60 / w) ∧ x * x * (60 / w) ≤ 5999998800000060 := by
  have a := sq_bd h; have b := base_bd h1 h6
  refine ⟨Int.mul_nonneg a.1 (by omega), ?_⟩
  have := Int.mul_le_mul a.2 b.2 (by omega) (by omega)
  omega
def lossTo (l : List Airway) (fl : List Int) : Nat → Int
  | 0 => 0
  | k + 1 => lossTo l fl k + gx fl k * gx fl k * (60 / (gx l k).w)
theorem lossTo_bd {l : List Airway} {fl : List Int} {p : Int} {n : Nat} (h : ∀ k, k < n → AwOk p (gx l k)) (hf : ∀ k, k < n → -9999999 ≤ gx fl k ∧ gx fl k ≤ 9999999) : ∀ k, k ≤ n → 0 ≤ lossTo l fl k ∧ lossTo l fl k ≤ k * 5999998800000060
  | 0, _ => by simp [lossTo]
  | k + 1, hk => by
    have h1 := lossTo_bd h hf k (by omega)
    have h2 := loss_bd (hf k (by omega)) (h k (by omega)).w1 (h k (by omega)).w6
    simp only [lossTo]; omega
noncomputable def flowLoss (p : Int) (l : List Airway) (fl : List Int) : Int := if dec (MineOk p l ∧ FlowFits l.length fl) then lossTo l fl l.length else -1
theorem flowLoss_t {p : Int} {l : List Airway} {fl : List Int} (h : MineOk p l) (h2 : FlowFits l.length fl) : flowLoss p l fl = lossTo l fl l.length := by
  simp [flowLoss, dec_t (And.intro h h2)]
theorem flowLoss_f {p : Int} {l : List Airway} {fl : List Int} (h : ¬ (MineOk p l ∧ FlowFits l.length fl)) : flowLoss p l fl = -1 := by
  simp [flowLoss, dec_f h]

/-! ### Caves -/
structure SillOk (F : List Int) (s : Sill) : Prop where
  a0 : 0 ≤ s.a
  a1 : s.a < F.length
  b0 : 0 ≤ s.b
  b1 : s.b < F.length
  ne : s.a ≠ s.b
  ha : gx F s.a.toNat ≤ s.high
  hb : gx F s.b.toNat ≤ s.high
  top : s.high ≤ 40
structure CaveOk (F A : List Int) (S : List Sill) : Prop where
  n1 : 1 ≤ F.length
  n6 : F.length ≤ 6
  al : A.length = F.length
  s9 : S.length ≤ 9
  fl : ∀ k, k < F.length → 0 ≤ gx F k ∧ gx F k ≤ 40
  ar : ∀ k, k < F.length → 1 ≤ gx A k ∧ gx A k ≤ 9
  sl : ∀ k, k < S.length → SillOk F (gx S k)
end Go.Proofs.Ytfgialdcilldiaa
