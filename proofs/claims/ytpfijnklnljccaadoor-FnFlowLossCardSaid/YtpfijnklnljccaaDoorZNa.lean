/- Determinants, graphs and their trees, pressures and flows, least squares; no condition. -/
import Derived.IntWalk
import Derived.Test.YtpfijnklnljccaaDoorZDa
namespace Go.Proofs.YtpfijnklnljccaaDoor
set_option linter.unusedVariables false
set_option linter.unusedSimpArgs false

def sm : Nat → (Nat → Int) → Int
  | 0, _ => 0
  | n + 1, f => sm n f + f n
theorem sm_congr {n : Nat} {f g : Nat → Int} (h : ∀ k, k < n → f k = g k) : sm n f = sm n g := by
  induction n with
  | zero => rfl
  | succ n ih => unfold sm; rw [ih (fun k hk => h k (by omega)), h n (by omega)]
theorem sm_mul {n : Nat} {c : Int} {f : Nat → Int} : sm n (fun k => c * f k) = c * sm n f := by
  induction n with
  | zero => simp [sm]
  | succ n ih => unfold sm; rw [ih, Int.mul_add]
theorem sm_zero {n : Nat} {f : Nat → Int} (h : ∀ k, k < n → f k = 0) : sm n f = 0 := by
  induction n with
  | zero => rfl
  | succ n ih => unfold sm; rw [ih (fun k hk => h k (by omega)), h n (by omega)]; rfl
theorem sm_le {n : Nat} {f g : Nat → Int} (h : ∀ k, k < n → f k ≤ g k) : sm n f ≤ sm n g := by
  induction n with
  | zero => exact Int.le_refl _
  | succ n ih => unfold sm; have := ih (fun k hk => h k (by omega)); have := h n (by omega); omega
theorem sm_nonneg {n : Nat} {f : Nat → Int} (h : ∀ k, k < n → 0 ≤ f k) : 0 ≤ sm n f := by
  have := sm_le (f := fun _ => 0) (g := f) h
  rw [sm_zero (fun _ _ => rfl)] at this; exact this
/-- A sum of numbers of one sign that is nothing. -/
theorem sm_eq_zero {n : Nat} {f : Nat → Int} (h : ∀ k, k < n → 0 ≤ f k) (hs : sm n f ≤ 0) : ∀ k, k < n → f k = 0 := by
  induction n with
  | zero => intro k hk; omega
  | succ n ih =>
    unfold sm at hs
    have h1 := sm_nonneg (n := n) (f := f) (fun k hk => h k (by omega))
    have h2 := h n (by omega)
    intro k hk
    by_cases e : k = n
    · subst e; omega
    · exact ih (fun k hk => h k (by omega)) (by omega) k (by omega)

def sg : Nat → Int
  | 0 => 1
  | n + 1 => - sg n
def sk (k j : Nat) : Nat := if j < k then j else j + 1
abbrev Mx := Nat → Nat → Int
def dt : Nat → Mx → Int
  | 0, _ => 1
  | n + 1, M => sm (n + 1) fun k => sg k * M 0 k * dt n fun i j => M (i + 1) (sk k j)
def uc (M : Mx) (c : Nat) (v : Nat → Int) : Mx := fun i j => if j = c then v i else M i j
end Go.Proofs.YtpfijnklnljccaaDoor

namespace Go.Proofs.YtpfijnklnljccaaDoor
set_option linter.unusedVariables false
set_option linter.unusedSimpArgs false

abbrev Fm := Nat → Int
def gs : List (Int × Fm) → Nat → Nat → Int
  | [], _, _ => 0
  | (w, v) :: E, i, j => w * v i * v j + gs E i j
/-- What a form is where another one is nothing. -/
def el (v : Fm) (b : Nat) (u : Fm) : Fm := fun j => u j - v b * u b * v j
structure Ed where
  a : Nat
  b : Nat
  d : Int
  w : Int
abbrev Pt := Nat → Nat
structure Good (P : Pt) : Prop where
  le : ∀ v, P v ≤ v
  id : ∀ v, P (P v) = P v
def hiP (P : Pt) (e : Ed) : Nat := max (P e.a) (P e.b)
def loP (P : Pt) (e : Ed) : Nat := min (P e.a) (P e.b)
def jP (P : Pt) (e : Ed) : Pt := fun v => if P v = hiP P e then loP P e else P v
def jo (P : Pt) (o : Fm) (e : Ed) : Fm := fun v => if P v = hiP P e then (if P e.a < P e.b then o v + (o e.a + e.d - o e.b) else o v + (o e.b - o e.a - e.d)) else o v
theorem Good.zero {P : Pt} (h : Good P) : P 0 = 0 := by have := h.le 0; omega
theorem hiP_or {P : Pt} {e : Ed} : hiP P e = P e.a ∧ loP P e = P e.b ∨ hiP P e = P e.b ∧ loP P e = P e.a := by unfold hiP loP; omega
theorem jP_good {P : Pt} {e : Ed} (h : Good P) : Good (jP P e) := by
  have hl : loP P e ≤ hiP P e := by unfold hiP loP; omega
  have il : P (loP P e) = loP P e := by rcases hiP_or (P := P) (e := e) with ⟨_, h2⟩ | ⟨_, h2⟩ <;> rw [h2, h.id]
  refine ⟨fun v => ?_, fun v => ?_⟩
  · unfold jP; have := h.le v; split <;> omega
  · by_cases e1 : P v = hiP P e
    · have : jP P e v = loP P e := if_pos e1
      rw [this]; unfold jP; rw [il]; split <;> rfl
    · have : jP P e v = P v := if_neg e1
      rw [this]; unfold jP; rw [h.id, if_neg e1]
def ef (P : Pt) (o : Fm) (e : Ed) : Fm := fun j => if j = 0 then o e.b - o e.a - e.d else (if P e.b = j then 1 else 0) - (if P e.a = j then 1 else 0)
def act (P : Pt) : Nat → Bool := fun i => P i == i
theorem act_jP {P : Pt} {e : Ed} (g : Good P) (h : P e.a ≠ P e.b) : (fun i => act P i && i != hiP P e) = act (jP P e) := by
  funext i
  have il : P (loP P e) = loP P e := by rcases hiP_or (P := P) (e := e) with ⟨_, h2⟩ | ⟨_, h2⟩ <;> rw [h2, g.id]
  have hne : loP P e ≠ hiP P e := by unfold loP hiP; omega
  unfold act jP
  by_cases e1 : P i = hiP P e
  · rw [if_pos e1]
    have : (loP P e == i) = false := by
      rw [beq_eq_false_iff_ne]; intro hh; rw [← hh, il] at e1; exact hne e1
    rw [this]
    by_cases e2 : P i = i
    · have : (i != hiP P e) = false := by simp; omega
      rw [this]; simp
    · simp [e2]
  · rw [if_neg e1]
    by_cases e2 : P i = i
    · have : (i != hiP P e) = true := by simp; intro hh; apply e1; omega
      rw [this]; simp
    · simp [e2]
/-- All places up to m are in one part. -/
def one (m : Nat) (P : Pt) : Bool := (List.range (m + 1)).all fun v => P v == 0
/-- The sum over the sets of legs that make one part of all. -/
def ts (m : Nat) : Pt → Fm → List Ed → (Fm → Int) → Int
  | P, o, [], g => if one m P then g o else 0
  | P, o, e :: E, g => ts m P o E g + if P e.a = P e.b then 0 else e.w * ts m (jP P e) (jo P o e) E g
end Go.Proofs.YtpfijnklnljccaaDoor

namespace Go.Proofs.YtpfijnklnljccaaDoor
set_option linter.unusedVariables false
set_option linter.unusedSimpArgs false

instance : Inhabited Ed := ⟨⟨0, 0, 0, 0⟩⟩
def es (f : Ed → Int) : List Ed → Int
  | [] => 0
  | e :: E => f e + es f E
/-- How a leg is at a place: 1 if it ends there, -1 if it begins there. -/
def xv (e : Ed) (u : Nat) : Int := (if e.b = u then 1 else 0) - (if e.a = u then 1 else 0)
def Inm (m : Nat) (E : List Ed) : Prop := ∀ e ∈ E, e.a ≤ m ∧ e.b ≤ m
def lap (E : List Ed) (u v : Nat) : Int := es (fun e => e.w * xv e u * xv e v) E
def L0 (E : List Ed) : Mx := fun i j => lap E (i + 1) (j + 1)
def D (m : Nat) (E : List Ed) : Int := dt m (L0 E)
def pid : Pt := fun v => v
def z0 : Fm := fun _ => 0
theorem pid_good : Good pid := ⟨fun v => Nat.le_refl v, fun v => rfl⟩
def fj (P : Pt) (E : List Ed) : Pt := E.foldl jP P
theorem jP_eq {P : Pt} {e : Ed} : jP P e e.a = jP P e e.b := by
  unfold jP
  rcases hiP_or (P := P) (e := e) with ⟨h1, h2⟩ | ⟨h1, h2⟩
  · rw [if_pos h1.symm, h2]; split <;> rfl
  · rw [if_pos (show P e.b = hiP P e from h1.symm), h2]; split <;> rfl
theorem jP_keep {P : Pt} {e : Ed} {u v : Nat} (h : P u = P v) : jP P e u = jP P e v := by unfold jP; rw [h]
theorem fj_good : ∀ {E : List Ed} {P : Pt}, Good P → Good (fj P E)
  | [], _, h => h
  | e :: E, P, h => fj_good (E := E) (jP_good h)
theorem fj_keep : ∀ {E : List Ed} {P : Pt} {u v : Nat}, P u = P v → fj P E u = fj P E v
  | [], _, _, _, h => h
  | e :: E, P, u, v, h => fj_keep (E := E) (jP_keep h)
theorem fj_eq : ∀ {E : List Ed} {P : Pt} {e : Ed}, e ∈ E → fj P E e.a = fj P E e.b
  | f :: E, P, e, h => by
    show fj (jP P f) E e.a = fj (jP P f) E e.b
    rcases List.mem_cons.1 h with rfl | h
    · exact fj_keep jP_eq
    · exact fj_eq h
theorem jP_same {P : Pt} {e : Ed} (h : P e.a = P e.b) : jP P e = P := by
  funext v; unfold jP hiP loP; rw [h]; split
  · rename_i h1; omega
  · rfl
def pw : List Ed → Int
  | [] => 1
  | e :: E => (1 + e.w) * pw E
end Go.Proofs.YtpfijnklnljccaaDoor

namespace Go.Proofs.YtpfijnklnljccaaDoor
set_option linter.unusedVariables false
set_option linter.unusedSimpArgs false

def has (s k : Nat) : Bool := s / 2 ^ k % 2 == 1
/-- The indices of a set's legs below n, in ascending order. -/
def ix (n s : Nat) : List Nat := (List.range n).filter (has s)
/-- The places are joined by legs one by one, each of which joins. -/
def jok : Pt → List Ed → Bool
  | _, [] => true
  | P, e :: E => (P e.a != P e.b) && jok (jP P e) E
def cn (m : Nat) (P : Pt) : Nat := ((List.range (m + 1)).filter fun v => P v == v).length
theorem filter_split {α : Type} {p q : α → Bool} {x : α} : ∀ {l : List α}, l.Nodup → x ∈ l → p x = true → q x = false → (∀ y, y ≠ x → q y = p y) → (l.filter q).length + 1 = (l.filter p).length
  | [], _, h, _, _, _ => by cases h
  | y :: l, hn, hx, hp, hq, h => by
    rw [List.nodup_cons] at hn
    by_cases e : y = x
    · subst e
      rw [List.filter_cons_of_pos hp, List.filter_cons_of_neg (by simp [hq]), List.length_cons]
      congr 2
      refine List.filter_congr fun z hz => h z fun e => ?_
      subst e; exact hn.1 hz
    · have hx' : x ∈ l := by
        rcases List.mem_cons.1 hx with hh | hh
        · exact absurd hh.symm e
        · exact hh
      have ih := filter_split (l := l) hn.2 hx' hp hq h
      have hy := h y e
      by_cases hpy : p y = true
      · rw [List.filter_cons_of_pos hpy, List.filter_cons_of_pos (by rw [hy]; exact hpy), List.length_cons, List.length_cons]; omega
      · rw [List.filter_cons_of_neg hpy, List.filter_cons_of_neg (by rw [hy]; exact hpy)]; exact ih
theorem cn_join {m : Nat} {P : Pt} {e : Ed} (g : Good P) (he : e.a ≤ m ∧ e.b ≤ m) (h : P e.a ≠ P e.b) : cn m (jP P e) + 1 = cn m P := by
  unfold cn
  have b1 := g.le e.a
  have b2 := g.le e.b
  refine filter_split (x := hiP P e) List.nodup_range (by simp; unfold hiP; omega) ?_ ?_ ?_
  · rcases hiP_or (P := P) (e := e) with ⟨h2, _⟩ | ⟨h2, _⟩ <;> rw [h2, g.id] <;> simp
  · have := congrFun (act_jP g h) (hiP P e)
    simp only [bne_self_eq_false, Bool.and_false] at this
    exact this.symm
  · intro y hy
    have := congrFun (act_jP g h) y
    have hy2 : (y != hiP P e) = true := by simpa using hy
    rw [hy2, Bool.and_true] at this
    exact this.symm
theorem cn_pid {m : Nat} : cn m pid = m + 1 := by
  unfold cn pid
  rw [List.filter_eq_self.2 (by simp)]; simp
theorem cn_fj {m : Nat} : ∀ {E : List Ed} {P : Pt}, Good P → Inm m E → cn m P ≤ cn m (fj P E) + E.length ∧ (jok P E = true ↔ cn m (fj P E) + E.length = cn m P)
  | [], P, g, _ => ⟨Nat.le_refl _, by simp [jok, fj]⟩
  | e :: E, P, g, hE => by
    have hE' : Inm m E := fun f hf => hE f (List.mem_cons_of_mem _ hf)
    have he := hE e List.mem_cons_self
    have ih := cn_fj (E := E) (jP_good (e := e) g) hE'
    show cn m P ≤ cn m (fj (jP P e) E) + (E.length + 1) ∧ (_ ↔ cn m (fj (jP P e) E) + (E.length + 1) = cn m P)
    unfold jok
    by_cases h : P e.a = P e.b
    · rw [jP_same h] at ih ⊢
      refine ⟨by omega, ?_⟩
      constructor
      · intro hh; simp [h] at hh
      · intro hh; omega
    · have := cn_join g he h
      have hb : (P e.a != P e.b) = true := by simpa using h
      rw [hb, Bool.true_and]
      refine ⟨by omega, ?_⟩
      rw [ih.2]; omega
end Go.Proofs.YtpfijnklnljccaaDoor

namespace Go.Proofs.YtpfijnklnljccaaDoor
set_option linter.unusedVariables false
set_option linter.unusedSimpArgs false

def src (i o v : Nat) : Int := (if v = i then 1 else 0) - (if v = o then 1 else 0)
def pr (m : Nat) (E : List Ed) (i o : Nat) : Nat → Int
  | 0 => 0
  | k + 1 => dt m (uc (L0 E) k fun r => src i o (r + 1))
/-- The resistance times the trees. -/
def rs (m : Nat) (E : List Ed) (a b : Nat) : Int := pr m E a b a - pr m E a b b
end Go.Proofs.YtpfijnklnljccaaDoor

namespace Go.Proofs.YtpfijnklnljccaaDoor
set_option linter.unusedVariables false
set_option linter.unusedSimpArgs false

/-- What goes out of a place by a flow. -/
def dv (E : List Ed) (f : Nat → Int) (v : Nat) : Int := sm E.length fun k => - (f k * xv (gx E k) v)
theorem sq_nonneg {x : Int} : 0 ≤ x * x := by
  rcases Int.le_total 0 x with g | g
  · exact Int.mul_nonneg g g
  · exact Int.mul_nonneg_of_nonpos_of_nonpos g g
theorem sq_pos {x : Int} (h : x ≠ 0) : 0 < x * x := by
  have := sq_nonneg (x := x)
  have h2 : x * x ≠ 0 := fun hh => by rcases Int.mul_eq_zero.1 hh with h3 | h3 <;> exact h h3
  omega
end Go.Proofs.YtpfijnklnljccaaDoor

namespace Go.Proofs.YtpfijnklnljccaaDoor
set_option linter.unusedVariables false
set_option linter.unusedSimpArgs false

def sz (m : Nat) (P : Pt) (r : Nat) : Int := sm (m + 1) fun v => if P v = r then 1 else 0
end Go.Proofs.YtpfijnklnljccaaDoor
