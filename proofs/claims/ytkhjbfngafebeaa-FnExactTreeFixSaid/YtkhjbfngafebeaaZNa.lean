/- Determinants, graphs and their trees, pressures and flows, least squares; no condition. -/
import Derived.IntWalk
import Derived.Test.YtkhjbfngafebeaaZDa
namespace Go.Proofs.Ytkhjbfngafebeaa
set_option linter.unusedVariables false
set_option linter.unusedSimpArgs false

def sm : Nat → (Nat → Int) → Int
  | 0, _ => 0
  | n + 1, f => sm n f + f n
theorem sm_congr {n : Nat} {f g : Nat → Int} (h : ∀ k, k < n → f k = g k) : sm n f = sm n g := by
  induction n with
  | zero => rfl
  | succ n ih => unfold sm; rw [ih (fun k hk => h k (by omega)), h n (by omega)]
theorem sm_add {n : Nat} {f g : Nat → Int} : sm n (fun k => f k + g k) = sm n f + sm n g := by
  induction n with
  | zero => rfl
  | succ n ih => simp only [sm, ih]; omega
theorem sm_zero {n : Nat} {f : Nat → Int} (h : ∀ k, k < n → f k = 0) : sm n f = 0 := by
  induction n with
  | zero => rfl
  | succ n ih => unfold sm; rw [ih (fun k hk => h k (by omega)), h n (by omega)]; rfl
theorem sm_one {n : Nat} {f : Nat → Int} {j : Nat} (hj : j < n) (h : ∀ k, k < n → k ≠ j → f k = 0) : sm n f = f j := by
  induction n with
  | zero => omega
  | succ n ih =>
    unfold sm
    by_cases e : j = n
    · subst e; rw [sm_zero (fun k hk => h k (by omega) (by omega))]; omega
    · rw [ih (by omega) (fun k hk hne => h k (by omega) hne), h n (by omega) (by omega)]; omega
theorem sm_le {n : Nat} {f g : Nat → Int} (h : ∀ k, k < n → f k ≤ g k) : sm n f ≤ sm n g := by
  induction n with
  | zero => exact Int.le_refl _
  | succ n ih => unfold sm; have := ih (fun k hk => h k (by omega)); have := h n (by omega); omega
def sg : Nat → Int
  | 0 => 1
  | n + 1 => - sg n
def sk (k j : Nat) : Nat := if j < k then j else j + 1
abbrev Mx := Nat → Nat → Int
def dt : Nat → Mx → Int
  | 0, _ => 1
  | n + 1, M => sm (n + 1) fun k => sg k * M 0 k * dt n fun i j => M (i + 1) (sk k j)
def uc (M : Mx) (c : Nat) (v : Nat → Int) : Mx := fun i j => if j = c then v i else M i j
end Go.Proofs.Ytkhjbfngafebeaa

namespace Go.Proofs.Ytkhjbfngafebeaa
set_option linter.unusedVariables false
set_option linter.unusedSimpArgs false

abbrev Fm := Nat → Int
def gs : List (Int × Fm) → Nat → Nat → Int
  | [], _, _ => 0
  | (w, v) :: E, i, j => w * v i * v j + gs E i j
/-- What a form is where another one is nothing. -/
def el (v : Fm) (b : Nat) (u : Fm) : Fm := fun j => u j - v b * u b * v j
structure Ed where
  a : Nat
  b : Nat
  d : Int
  w : Int
abbrev Pt := Nat → Nat
structure Good (P : Pt) : Prop where
  le : ∀ v, P v ≤ v
  id : ∀ v, P (P v) = P v
def hiP (P : Pt) (e : Ed) : Nat := max (P e.a) (P e.b)
def loP (P : Pt) (e : Ed) : Nat := min (P e.a) (P e.b)
def jP (P : Pt) (e : Ed) : Pt := fun v => if P v = hiP P e then loP P e else P v
def jo (P : Pt) (o : Fm) (e : Ed) : Fm := fun v => if P v = hiP P e then (if P e.a < P e.b then o v + (o e.a + e.d - o e.b) else o v + (o e.b - o e.a - e.d)) else o v
theorem Good.zero {P : Pt} (h : Good P) : P 0 = 0 := by have := h.le 0; omega
theorem hiP_or {P : Pt} {e : Ed} : hiP P e = P e.a ∧ loP P e = P e.b ∨ hiP P e = P e.b ∧ loP P e = P e.a := by unfold hiP loP; omega
theorem jP_good {P : Pt} {e : Ed} (h : Good P) : Good (jP P e) := by
  have hl : loP P e ≤ hiP P e := by unfold hiP loP; omega
  have il : P (loP P e) = loP P e := by rcases hiP_or (P := P) (e := e) with ⟨_, h2⟩ | ⟨_, h2⟩ <;> rw [h2, h.id]
  refine ⟨fun v => ?_, fun v => ?_⟩
  · unfold jP; have := h.le v; split <;> omega
  · by_cases e1 : P v = hiP P e
    · have : jP P e v = loP P e := if_pos e1
      rw [this]; unfold jP; rw [il]; split <;> rfl
    · have : jP P e v = P v := if_neg e1
      rw [this]; unfold jP; rw [h.id, if_neg e1]
def act (P : Pt) : Nat → Bool := fun i => P i == i
theorem act_jP {P : Pt} {e : Ed} (g : Good P) (h : P e.a ≠ P e.b) : (fun i => act P i && i != hiP P e) = act (jP P e) := by
  funext i
  have il : P (loP P e) = loP P e := by rcases hiP_or (P := P) (e := e) with ⟨_, h2⟩ | ⟨_, h2⟩ <;> rw [h2, g.id]
  have hne : loP P e ≠ hiP P e := by unfold loP hiP; omega
  unfold act jP
  by_cases e1 : P i = hiP P e
  · rw [if_pos e1]
    have : (loP P e == i) = false := by
      rw [beq_eq_false_iff_ne]; intro hh; rw [← hh, il] at e1; exact hne e1
    rw [this]
    by_cases e2 : P i = i
    · have : (i != hiP P e) = false := by simp; omega
      rw [this]; simp
    · simp [e2]
  · rw [if_neg e1]
    by_cases e2 : P i = i
    · have : (i != hiP P e) = true := by simp; intro hh; apply e1; omega
      rw [this]; simp
    · simp [e2]
/-- All places up to m are in one part. -/
def one (m : Nat) (P : Pt) : Bool := (List.range (m + 1)).all fun v => P v == 0
theorem one_iff {m : Nat} {P : Pt} : one m P = true ↔ ∀ v, v ≤ m → P v = 0 := by
  unfold one; rw [List.all_eq_true]
  exact ⟨fun h v hv => by simpa using h v (by simp; omega), fun h v hv => by simpa using h v (by simp at hv; omega)⟩
/-- The sum over the sets of legs that make one part of all. -/
def ts (m : Nat) : Pt → Fm → List Ed → (Fm → Int) → Int
  | P, o, [], g => if one m P then g o else 0
  | P, o, e :: E, g => ts m P o E g + if P e.a = P e.b then 0 else e.w * ts m (jP P e) (jo P o e) E g
end Go.Proofs.Ytkhjbfngafebeaa

namespace Go.Proofs.Ytkhjbfngafebeaa
set_option linter.unusedVariables false
set_option linter.unusedSimpArgs false

instance : Inhabited Ed := ⟨⟨0, 0, 0, 0⟩⟩
def es (f : Ed → Int) : List Ed → Int
  | [] => 0
  | e :: E => f e + es f E
/-- How a leg is at a place: 1 if it ends there, -1 if it begins there. -/
def xv (e : Ed) (u : Nat) : Int := (if e.b = u then 1 else 0) - (if e.a = u then 1 else 0)
def Inm (m : Nat) (E : List Ed) : Prop := ∀ e ∈ E, e.a ≤ m ∧ e.b ≤ m
def lap (E : List Ed) (u v : Nat) : Int := es (fun e => e.w * xv e u * xv e v) E
def L0 (E : List Ed) : Mx := fun i j => lap E (i + 1) (j + 1)
def D (m : Nat) (E : List Ed) : Int := dt m (L0 E)
def pid : Pt := fun v => v
def z0 : Fm := fun _ => 0
theorem pid_good : Good pid := ⟨fun v => Nat.le_refl v, fun v => rfl⟩
def fj (P : Pt) (E : List Ed) : Pt := E.foldl jP P
theorem jP_eq {P : Pt} {e : Ed} : jP P e e.a = jP P e e.b := by
  unfold jP
  rcases hiP_or (P := P) (e := e) with ⟨h1, h2⟩ | ⟨h1, h2⟩
  · rw [if_pos h1.symm, h2]; split <;> rfl
  · rw [if_pos (show P e.b = hiP P e from h1.symm), h2]; split <;> rfl
theorem jP_keep {P : Pt} {e : Ed} {u v : Nat} (h : P u = P v) : jP P e u = jP P e v := by unfold jP; rw [h]
theorem fj_good : ∀ {E : List Ed} {P : Pt}, Good P → Good (fj P E)
  | [], _, h => h
  | e :: E, P, h => fj_good (E := E) (jP_good h)
theorem fj_keep : ∀ {E : List Ed} {P : Pt} {u v : Nat}, P u = P v → fj P E u = fj P E v
  | [], _, _, _, h => h
  | e :: E, P, u, v, h => fj_keep (E := E) (jP_keep h)
theorem fj_eq : ∀ {E : List Ed} {P : Pt} {e : Ed}, e ∈ E → fj P E e.a = fj P E e.b
  | f :: E, P, e, h => by
    show fj (jP P f) E e.a = fj (jP P f) E e.b
    rcases List.mem_cons.1 h with rfl | h
    · exact fj_keep jP_eq
    · exact fj_eq h
theorem fj_resp {Q : Nat → Prop} : ∀ {E : List Ed} {P : Pt}, (∀ v, Q v ↔ Q (P v)) → (∀ e ∈ E, Q e.a ↔ Q e.b) → ∀ v, Q v ↔ Q (fj P E v)
  | [], _, h, _ => h
  | e :: E, P, h, he => by
    refine fj_resp (E := E) (P := jP P e) (fun v => ?_) (fun f hf => he f (List.mem_cons_of_mem _ hf))
    have h1 := he e List.mem_cons_self
    have h2 : Q (hiP P e) ↔ Q (loP P e) := by
      rcases hiP_or (P := P) (e := e) with ⟨a1, a2⟩ | ⟨a1, a2⟩
      · rw [a1, a2, ← h, ← h]; exact h1
      · rw [a1, a2, ← h, ← h]; exact h1.symm
    unfold jP
    split
    · rename_i hv; rw [← h2, ← hv]; exact h v
    · exact h v
theorem jP_same {P : Pt} {e : Ed} (h : P e.a = P e.b) : jP P e = P := by
  funext v; unfold jP hiP loP; rw [h]; split
  · rename_i h1; omega
  · rfl
def pw : List Ed → Int
  | [] => 1
  | e :: E => (1 + e.w) * pw E
end Go.Proofs.Ytkhjbfngafebeaa

namespace Go.Proofs.Ytkhjbfngafebeaa
set_option linter.unusedVariables false
set_option linter.unusedSimpArgs false

/-- A set links all places without a loop. -/
def isT (m : Nat) : Pt → List Ed → Nat → Bool
  | P, [], _ => one m P
  | P, e :: E, s => if s % 2 = 1 then (P e.a != P e.b) && isT m (jP P e) E (s / 2) else isT m P E (s / 2)
def has (s k : Nat) : Bool := s / 2 ^ k % 2 == 1
theorem has_zero {s : Nat} : has s 0 = (s % 2 == 1) := by simp [has]
theorem has_succ {s k : Nat} : has s (k + 1) = has (s / 2) k := by
  unfold has; rw [Nat.pow_succ, Nat.mul_comm, Nat.div_div_eq_div_mul]
/-- The indices of a set's legs below n, in ascending order. -/
def ix (n s : Nat) : List Nat := (List.range n).filter (has s)
theorem ix_succ {n s : Nat} : ix (n + 1) s = (if s % 2 = 1 then [0] else []) ++ (ix n (s / 2)).map (· + 1) := by
  unfold ix
  rw [List.range_succ_eq_map, List.filter_cons, List.filter_map, has_zero]
  have : (has s ∘ Nat.succ) = has (s / 2) := by funext k; exact has_succ
  rw [this]
  by_cases h : s % 2 = 1
  · simp [h]
  · simp [h]
/-- The legs of a set. -/
def pk {α : Type} : List α → Nat → List α
  | [], _ => []
  | x :: l, s => if s % 2 = 1 then x :: pk l (s / 2) else pk l (s / 2)
theorem pk_ix {α : Type} [Inhabited α] : ∀ {l : List α} {s : Nat}, pk l s = (ix l.length s).map (fun k => l.getD k default)
  | [], s => by simp [pk, ix]
  | x :: l, s => by
    rw [List.length_cons, ix_succ, pk, pk_ix (l := l), List.map_append, List.map_map]
    have : ((fun k => (x :: l).getD k default) ∘ fun x => x + 1) = fun k => l.getD k default := by funext k; simp
    rw [this]
    split <;> simp
/-- The places are joined by legs one by one, each of which joins. -/
def jok : Pt → List Ed → Bool
  | _, [] => true
  | P, e :: E => (P e.a != P e.b) && jok (jP P e) E
theorem isT_pk {m : Nat} : ∀ {E : List Ed} {P : Pt} {s : Nat}, isT m P E s = (jok P (pk E s) && one m (fj P (pk E s)))
  | [], P, s => by simp [isT, pk, jok, fj]
  | e :: E, P, s => by
    unfold isT pk
    split
    · rw [isT_pk (E := E)]; simp only [jok, fj, List.foldl_cons, Bool.and_assoc]
    · rw [isT_pk (E := E)]
def ojs : Pt → Fm → List Ed → Fm
  | _, o, [] => o
  | P, o, e :: E => ojs (jP P e) (jo P o e) E
def cn (m : Nat) (P : Pt) : Nat := ((List.range (m + 1)).filter fun v => P v == v).length
theorem filter_split {α : Type} {p q : α → Bool} {x : α} : ∀ {l : List α}, l.Nodup → x ∈ l → p x = true → q x = false → (∀ y, y ≠ x → q y = p y) → (l.filter q).length + 1 = (l.filter p).length
  | [], _, h, _, _, _ => by cases h
  | y :: l, hn, hx, hp, hq, h => by
    rw [List.nodup_cons] at hn
    by_cases e : y = x
    · subst e
      rw [List.filter_cons_of_pos hp, List.filter_cons_of_neg (by simp [hq]), List.length_cons]
      congr 2
      refine List.filter_congr fun z hz => h z fun e => ?_
      subst e; exact hn.1 hz
    · have hx' : x ∈ l := by
        rcases List.mem_cons.1 hx with hh | hh
        · exact absurd hh.symm e
        · exact hh
      have ih := filter_split (l := l) hn.2 hx' hp hq h
      have hy := h y e
      by_cases hpy : p y = true
      · rw [List.filter_cons_of_pos hpy, List.filter_cons_of_pos (by rw [hy]; exact hpy), List.length_cons, List.length_cons]; omega
      · rw [List.filter_cons_of_neg hpy, List.filter_cons_of_neg (by rw [hy]; exact hpy)]; exact ih
theorem cn_join {m : Nat} {P : Pt} {e : Ed} (g : Good P) (he : e.a ≤ m ∧ e.b ≤ m) (h : P e.a ≠ P e.b) : cn m (jP P e) + 1 = cn m P := by
  unfold cn
  have b1 := g.le e.a
  have b2 := g.le e.b
  refine filter_split (x := hiP P e) List.nodup_range (by simp; unfold hiP; omega) ?_ ?_ ?_
  · rcases hiP_or (P := P) (e := e) with ⟨h2, _⟩ | ⟨h2, _⟩ <;> rw [h2, g.id] <;> simp
  · have := congrFun (act_jP g h) (hiP P e)
    simp only [bne_self_eq_false, Bool.and_false] at this
    exact this.symm
  · intro y hy
    have := congrFun (act_jP g h) y
    have hy2 : (y != hiP P e) = true := by simpa using hy
    rw [hy2, Bool.and_true] at this
    exact this.symm
theorem cn_pid {m : Nat} : cn m pid = m + 1 := by
  unfold cn pid
  rw [List.filter_eq_self.2 (by simp)]; simp
theorem cn_one {m : Nat} {P : Pt} (g : Good P) : cn m P = 1 ↔ one m P = true := by
  have z : (P 0 == 0) = true := by simp [g.zero]
  have e1 : cn m P = ((List.range m).filter fun v => P (v + 1) == v + 1).length + 1 := by
    unfold cn
    rw [List.range_succ_eq_map, List.filter_cons_of_pos (p := fun v => P v == v) z, List.length_cons, List.filter_map, List.length_map]
    rfl
  rw [e1, one_iff]
  constructor
  · intro h v hv
    have h0 : (List.range m).filter (fun v => P (v + 1) == v + 1) = [] := by
      apply List.eq_nil_of_length_eq_zero; omega
    rw [List.filter_eq_nil_iff] at h0
    apply Classical.byContradiction
    intro hne
    have := g.le v
    obtain ⟨u, hu⟩ : ∃ u, P v = u + 1 := ⟨P v - 1, by omega⟩
    refine h0 u (by simp; omega) ?_
    rw [← hu, g.id]; simp
  · intro h
    have h0 : (List.range m).filter (fun v => P (v + 1) == v + 1) = [] := by
      rw [List.filter_eq_nil_iff]
      intro v hv
      rw [List.mem_range] at hv
      rw [h (v + 1) (by omega)]; simp
    rw [h0]; rfl
theorem cn_fj {m : Nat} : ∀ {E : List Ed} {P : Pt}, Good P → Inm m E → cn m P ≤ cn m (fj P E) + E.length ∧ (jok P E = true ↔ cn m (fj P E) + E.length = cn m P)
  | [], P, g, _ => ⟨Nat.le_refl _, by simp [jok, fj]⟩
  | e :: E, P, g, hE => by
    have hE' : Inm m E := fun f hf => hE f (List.mem_cons_of_mem _ hf)
    have he := hE e List.mem_cons_self
    have ih := cn_fj (E := E) (jP_good (e := e) g) hE'
    show cn m P ≤ cn m (fj (jP P e) E) + (E.length + 1) ∧ (_ ↔ cn m (fj (jP P e) E) + (E.length + 1) = cn m P)
    unfold jok
    by_cases h : P e.a = P e.b
    · rw [jP_same h] at ih ⊢
      refine ⟨by omega, ?_⟩
      constructor
      · intro hh; simp [h] at hh
      · intro hh; omega
    · have := cn_join g he h
      have hb : (P e.a != P e.b) = true := by simpa using h
      rw [hb, Bool.true_and]
      refine ⟨by omega, ?_⟩
      rw [ih.2]; omega
/-- A set of one leg less than there are places links all without a loop exactly if it links all; and exactly if each of its legs joins. -/
theorem tree_iff {m : Nat} {E : List Ed} (h : Inm m E) : (jok pid E = true ∧ one m (fj pid E) = true) ↔ (E.length = m ∧ one m (fj pid E) = true) := by
  have h1 := cn_fj (E := E) pid_good h
  rw [cn_pid] at h1
  rw [h1.2, ← cn_one (fj_good pid_good)]
  omega
theorem tree_iff2 {m : Nat} {E : List Ed} (h : Inm m E) : (jok pid E = true ∧ one m (fj pid E) = true) ↔ (E.length = m ∧ jok pid E = true) := by
  have h1 := cn_fj (E := E) pid_good h
  rw [cn_pid] at h1
  rw [h1.2, ← cn_one (fj_good pid_good)]
  omega

theorem jo_eq {P : Pt} {o : Fm} {e : Ed} (h : P e.a ≠ P e.b) : jo P o e e.b - jo P o e e.a = e.d := by
  unfold jo hiP
  by_cases h1 : P e.a < P e.b
  · rw [if_pos (by omega), if_pos h1, if_neg (by omega)]; omega
  · rw [if_neg (by omega), if_pos (by omega), if_neg h1]; omega
theorem jo_keep {P : Pt} {o : Fm} {e : Ed} {u v : Nat} (h : P u = P v) : jo P o e u - jo P o e v = o u - o v := by
  unfold jo; rw [h]; split
  · split <;> omega
  · rfl
theorem ojs_keep : ∀ {E : List Ed} {P : Pt} {o : Fm} {u v : Nat}, P u = P v → ojs P o E u - ojs P o E v = o u - o v
  | [], _, _, _, _, _ => rfl
  | e :: E, P, o, u, v, h => by
    show ojs (jP P e) (jo P o e) E u - ojs (jP P e) (jo P o e) E v = _
    rw [ojs_keep (E := E) (jP_keep h), jo_keep h]
theorem ojs_eq : ∀ {E : List Ed} {P : Pt} {o : Fm} {e : Ed}, jok P E = true → e ∈ E → ojs P o E e.b - ojs P o E e.a = e.d
  | f :: E, P, o, e, hk, h => by
    unfold jok at hk
    rw [Bool.and_eq_true] at hk
    show ojs (jP P f) (jo P o f) E e.b - ojs (jP P f) (jo P o f) E e.a = _
    rcases List.mem_cons.1 h with rfl | h
    · rw [ojs_keep jP_eq.symm, jo_eq (by simpa using hk.1)]
    · exact ojs_eq hk.2 h
theorem jo_zero {P : Pt} {o : Fm} {e : Ed} (g : Good P) (h : P e.a ≠ P e.b) (h0 : o 0 = 0) : jo P o e 0 = 0 := by
  unfold jo; rw [g.zero, if_neg (by unfold hiP; omega), h0]
theorem ojs_zero : ∀ {E : List Ed} {P : Pt} {o : Fm}, Good P → jok P E = true → o 0 = 0 → ojs P o E 0 = 0
  | [], _, _, _, _, h => h
  | e :: E, P, o, g, hk, h => by
    unfold jok at hk
    rw [Bool.and_eq_true] at hk
    exact ojs_zero (E := E) (jP_good g) hk.2 (jo_zero g (by simpa using hk.1) h)
end Go.Proofs.Ytkhjbfngafebeaa

namespace Go.Proofs.Ytkhjbfngafebeaa
set_option linter.unusedVariables false
set_option linter.unusedSimpArgs false

def src (i o v : Nat) : Int := (if v = i then 1 else 0) - (if v = o then 1 else 0)
def pr (m : Nat) (E : List Ed) (i o : Nat) : Nat → Int
  | 0 => 0
  | k + 1 => dt m (uc (L0 E) k fun r => src i o (r + 1))
/-- The resistance times the trees. -/
def rs (m : Nat) (E : List Ed) (a b : Nat) : Int := pr m E a b a - pr m E a b b
end Go.Proofs.Ytkhjbfngafebeaa

namespace Go.Proofs.Ytkhjbfngafebeaa
set_option linter.unusedVariables false
set_option linter.unusedSimpArgs false

def sz (m : Nat) (P : Pt) (r : Nat) : Int := sm (m + 1) fun v => if P v = r then 1 else 0
theorem sz_pos {m : Nat} {P : Pt} {r v : Nat} (hv : v ≤ m) (h : P v = r) : 1 ≤ sz m P r := by
  unfold sz
  have h1 := sm_le (n := m + 1) (f := fun k => if k = v then 1 else 0) (g := fun k => if P k = r then 1 else 0) (fun k hk => by
    by_cases e : k = v
    · subst e; rw [if_pos rfl, if_pos h]; exact Int.le_refl _
    · rw [if_neg e]; split <;> omega)
  rw [sm_one (j := v) (by omega) (fun k hk hne => if_neg hne), if_pos rfl] at h1
  exact h1
theorem sz_join {m : Nat} {P : Pt} {e : Ed} (h : P e.a ≠ P e.b) : sz m (jP P e) (loP P e) = sz m P (loP P e) + sz m P (hiP P e) := by
  have hne : loP P e ≠ hiP P e := by unfold loP hiP; omega
  unfold sz
  rw [← sm_add]
  refine sm_congr fun v hv => ?_
  unfold jP
  by_cases h1 : P v = hiP P e
  · rw [if_pos h1, if_pos rfl, if_neg (by omega), if_pos h1]; rfl
  · rw [if_neg h1, if_neg h1]; omega
theorem sz_other {m : Nat} {P : Pt} {e : Ed} {r : Nat} (h1 : r ≠ loP P e) (h2 : r ≠ hiP P e) : sz m (jP P e) r = sz m P r := by
  unfold sz
  refine sm_congr fun v hv => ?_
  unfold jP
  by_cases h : P v = hiP P e
  · rw [if_pos h, if_neg (Ne.symm h1), if_neg (by omega)]
  · rw [if_neg h]
def Near (m : Nat) (P : Pt) (o : Fm) : Prop := ∀ u v, u ≤ m → v ≤ m → P u = P v → o u - o v ≤ 99 * (sz m P (P u) - 1)
theorem near_join {m : Nat} {P : Pt} {o : Fm} {e : Ed} (hn : Near m P o) (he : e.a ≤ m ∧ e.b ≤ m) (hd : -99 ≤ e.d ∧ e.d ≤ 99) (h : P e.a ≠ P e.b) : Near m (jP P e) (jo P o e) := by
  have hlo : loP P e ≠ hiP P e := by unfold loP hiP; omega
  have key : ∀ u v, u ≤ m → v ≤ m → P u = hiP P e → P v = loP P e → jo P o e u - jo P o e v ≤ 99 * (sz m P (loP P e) + sz m P (hiP P e) - 1) ∧ jo P o e v - jo P o e u ≤ 99 * (sz m P (loP P e) + sz m P (hiP P e) - 1) := by
    intro u v hu hv h1 h2
    have j2 : jo P o e v = o v := by unfold jo; rw [if_neg (by omega)]
    have j1 : jo P o e u = if P e.a < P e.b then o u + (o e.a + e.d - o e.b) else o u + (o e.b - o e.a - e.d) := by unfold jo; rw [if_pos h1]
    rw [j1, j2]
    by_cases hab : P e.a < P e.b
    · rw [if_pos hab]
      have a1 : hiP P e = P e.b := by unfold hiP; omega
      have a2 : loP P e = P e.a := by unfold loP; omega
      have n1 := hn u e.b hu he.2 (by omega)
      have n2 := hn e.b u he.2 hu (by omega)
      have n3 := hn v e.a hv he.1 (by omega)
      have n4 := hn e.a v he.1 hv (by omega)
      rw [h1] at n1; rw [← a1] at n2; rw [h2] at n3; rw [← a2] at n4
      omega
    · rw [if_neg hab]
      have a1 : hiP P e = P e.a := by unfold hiP; omega
      have a2 : loP P e = P e.b := by unfold loP; omega
      have n1 := hn u e.a hu he.1 (by omega)
      have n2 := hn e.a u he.1 hu (by omega)
      have n3 := hn v e.b hv he.2 (by omega)
      have n4 := hn e.b v he.2 hv (by omega)
      rw [h1] at n1; rw [← a1] at n2; rw [h2] at n3; rw [← a2] at n4
      omega
  have ph : ∃ x, x ≤ m ∧ P x = hiP P e := by
    rcases hiP_or (P := P) (e := e) with ⟨h1, _⟩ | ⟨h1, _⟩
    · exact ⟨e.a, he.1, h1.symm⟩
    · exact ⟨e.b, he.2, h1.symm⟩
  have pl : ∃ x, x ≤ m ∧ P x = loP P e := by
    rcases hiP_or (P := P) (e := e) with ⟨_, h1⟩ | ⟨_, h1⟩
    · exact ⟨e.b, he.2, h1.symm⟩
    · exact ⟨e.a, he.1, h1.symm⟩
  obtain ⟨xh, hxh, exh⟩ := ph
  obtain ⟨xl, hxl, exl⟩ := pl
  have q1 := sz_pos hxh exh
  have q2 := sz_pos hxl exl
  intro u v hu hv huv
  have hk := jo_keep (P := P) (o := o) (e := e) (u := u) (v := v)
  by_cases hu1 : P u = hiP P e
  · have ju : jP P e u = loP P e := if_pos hu1
    rw [ju, sz_join h]
    by_cases hv1 : P v = hiP P e
    · rw [hk (by omega)]
      have := hn u v hu hv (by omega)
      rw [hu1] at this; omega
    · have jv : jP P e v = P v := if_neg hv1
      exact (key u v hu hv hu1 (by rw [← jv, ← huv, ju])).1
  · have ju : jP P e u = P u := if_neg hu1
    by_cases hv1 : P v = hiP P e
    · have jv : jP P e v = loP P e := if_pos hv1
      have : P u = loP P e := by rw [← ju, huv, jv]
      rw [huv, jv, sz_join h]
      exact (key v u hv hu hv1 this).2
    · have jv : jP P e v = P v := if_neg hv1
      have e1 : P u = P v := by rw [← ju, huv, jv]
      rw [hk e1, ju]
      have n := hn u v hu hv e1
      by_cases hl : P u = loP P e
      · rw [hl, sz_join h]; rw [hl] at n; omega
      · rw [sz_other hl hu1]; exact n
theorem near_ojs {m : Nat} : ∀ {E : List Ed} {P : Pt} {o : Fm}, Inm m E → (∀ e ∈ E, -99 ≤ e.d ∧ e.d ≤ 99) → jok P E = true → Near m P o → Near m (fj P E) (ojs P o E)
  | [], _, _, _, _, _, h => h
  | e :: E, P, o, hE, hd, hk, h => by
    unfold jok at hk
    rw [Bool.and_eq_true] at hk
    exact near_ojs (E := E) (fun f hf => hE f (List.mem_cons_of_mem _ hf)) (fun f hf => hd f (List.mem_cons_of_mem _ hf)) hk.2
      (near_join h (hE e List.mem_cons_self) (hd e List.mem_cons_self) (by simpa using hk.1))
theorem near_pid {m : Nat} : Near m pid z0 := by
  intro u v hu hv h
  have : 1 ≤ sz m pid (pid u) := sz_pos hu rfl
  simp only [z0]; omega
theorem place_bd {m : Nat} {E : List Ed} (hE : Inm m E) (hd : ∀ e ∈ E, -99 ≤ e.d ∧ e.d ≤ 99) (hk : jok pid E = true) (h1 : one m (fj pid E) = true) : ∀ v, v ≤ m → -(99 * (m : Int)) ≤ ojs pid z0 E v ∧ ojs pid z0 E v ≤ 99 * m := by
  intro v hv
  have n := near_ojs hE hd hk near_pid
  have z := ojs_zero (o := z0) pid_good hk rfl
  rw [one_iff] at h1
  have a := n v 0 hv (by omega) (by rw [h1 v hv, h1 0 (by omega)])
  have b := n 0 v (by omega) hv (by rw [h1 v hv, h1 0 (by omega)])
  have s : sz m (fj pid E) 0 = m + 1 := by
    unfold sz
    have : sm (m + 1) (fun v => if fj pid E v = 0 then 1 else 0) = sm (m + 1) fun _ => 1 := sm_congr fun k hk => by rw [if_pos (h1 k (by omega))]
    rw [this]
    have : ∀ n : Nat, sm n (fun _ => 1) = (n : Int) := by
      intro n; induction n with
      | zero => rfl
      | succ n ih => simp only [sm, ih]; omega
    rw [this]; omega
  rw [h1 v hv, s] at a
  rw [h1 0 (by omega), s] at b
  omega
theorem pk_mem {α : Type} {x : α} : ∀ {l : List α} {s : Nat}, x ∈ pk l s → x ∈ l
  | [], s, h => by cases h
  | y :: l, s, h => by
    unfold pk at h
    split at h
    · rcases List.mem_cons.1 h with rfl | h
      · exact List.mem_cons_self
      · exact List.mem_cons_of_mem _ (pk_mem h)
    · exact List.mem_cons_of_mem _ (pk_mem h)
end Go.Proofs.Ytkhjbfngafebeaa
