/- Determinants, graphs and their trees, pressures and flows, least squares; no condition. -/
import Derived.IntWalk
import Derived.Test.YtpfijnklnljccaaDoorZDa
namespace Go.Proofs.YtpfijnklnljccaaDoor
set_option linter.unusedVariables false
set_option linter.unusedSimpArgs false

def sm : Nat → (Nat → Int) → Int
  | 0, _ => 0
  | n + 1, f => sm n f + f n
theorem sm_congr {n : Nat} {f g : Nat → Int} (h : ∀ k, k < n → f k = g k) : sm n f = sm n g := by
  induction n with
  | zero => rfl
  | succ n ih => unfold sm; rw [ih (fun k hk => h k (by omega)), h n (by omega)]
theorem sm_add {n : Nat} {f g : Nat → Int} : sm n (fun k => f k + g k) = sm n f + sm n g := by
  induction n with
  | zero => rfl
  | succ n ih => simp only [sm, ih]; omega
theorem sm_mul {n : Nat} {c : Int} {f : Nat → Int} : sm n (fun k => c * f k) = c * sm n f := by
  induction n with
  | zero => simp [sm]
  | succ n ih => unfold sm; rw [ih, Int.mul_add]
theorem sm_zero {n : Nat} {f : Nat → Int} (h : ∀ k, k < n → f k = 0) : sm n f = 0 := by
  induction n with
  | zero => rfl
  | succ n ih => unfold sm; rw [ih (fun k hk => h k (by omega)), h n (by omega)]; rfl
theorem sm_front {n : Nat} {f : Nat → Int} : sm (n + 1) f = f 0 + sm n (fun k => f (k + 1)) := by
  induction n with
  | zero => simp [sm]
  | succ n ih => rw [sm, ih]; simp only [sm]; omega
theorem sm_comm {n m : Nat} {f : Nat → Nat → Int} : sm n (fun i => sm m (fun j => f i j)) = sm m (fun j => sm n (fun i => f i j)) := by
  induction n with
  | zero => simp only [sm]; exact (sm_zero (fun _ _ => rfl)).symm
  | succ n ih => simp only [sm]; rw [ih, ← sm_add]
theorem sm_one {n : Nat} {f : Nat → Int} {j : Nat} (hj : j < n) (h : ∀ k, k < n → k ≠ j → f k = 0) : sm n f = f j := by
  induction n with
  | zero => omega
  | succ n ih =>
    unfold sm
    by_cases e : j = n
    · subst e; rw [sm_zero (fun k hk => h k (by omega) (by omega))]; omega
    · rw [ih (by omega) (fun k hk hne => h k (by omega) hne), h n (by omega) (by omega)]; omega
theorem sm_le {n : Nat} {f g : Nat → Int} (h : ∀ k, k < n → f k ≤ g k) : sm n f ≤ sm n g := by
  induction n with
  | zero => exact Int.le_refl _
  | succ n ih => unfold sm; have := ih (fun k hk => h k (by omega)); have := h n (by omega); omega
theorem sm_nonneg {n : Nat} {f : Nat → Int} (h : ∀ k, k < n → 0 ≤ f k) : 0 ≤ sm n f := by
  have := sm_le (f := fun _ => 0) (g := f) h
  rw [sm_zero (fun _ _ => rfl)] at this; exact this
def sg : Nat → Int
  | 0 => 1
  | n + 1 => - sg n
def sk (k j : Nat) : Nat := if j < k then j else j + 1
theorem sk_lt {k j n : Nat} (hj : j < n) : sk k j < n + 1 := by unfold sk; split <;> omega
theorem sk_zero {j : Nat} : sk 0 j = j + 1 := by unfold sk; split <;> omega
theorem sk_succ {k j : Nat} : sk (k + 1) (j + 1) = sk k j + 1 := by unfold sk; split <;> split <;> omega
theorem sk_succ0 {k : Nat} : sk (k + 1) 0 = 0 := by unfold sk; split <;> omega
theorem sk_sk {k l j : Nat} (h : k ≤ l) : sk k (sk l j) = sk (l + 1) (sk k j) := by unfold sk; (repeat' split) <;> omega

abbrev Mx := Nat → Nat → Int
def dt : Nat → Mx → Int
  | 0, _ => 1
  | n + 1, M => sm (n + 1) fun k => sg k * M 0 k * dt n fun i j => M (i + 1) (sk k j)
theorem dt_congr : ∀ {n : Nat} {M N : Mx}, (∀ i, i < n → ∀ j, j < n → M i j = N i j) → dt n M = dt n N
  | 0, _, _, _ => rfl
  | n + 1, M, N, h => by
    unfold dt
    refine sm_congr fun k hk => ?_
    rw [h 0 (by omega) k hk, dt_congr (n := n) (fun i hi j hj => h (i + 1) (by omega) _ (sk_lt hj))]
/-- Another row. -/
def ur (M : Mx) (r : Nat) (v : Nat → Int) : Mx := fun i j => if i = r then v j else M i j
theorem ur_self {M : Mx} {r j : Nat} {v : Nat → Int} : ur M r v r j = v j := by simp [ur]
theorem ur_ne {M : Mx} {r i j : Nat} {v : Nat → Int} (h : i ≠ r) : ur M r v i j = M i j := by simp [ur, h]
theorem ur_id {M : Mx} {r : Nat} : ur M r (M r) = M := by
  funext i j; unfold ur; split
  · rename_i h; rw [h]
  · rfl
theorem ur_comm {M : Mx} {r s : Nat} {v w : Nat → Int} (h : r ≠ s) : ur (ur M r v) s w = ur (ur M s w) r v := by
  funext i j; unfold ur; split
  · rename_i h1; subst h1; rw [if_neg (by omega)]
  · split <;> rfl
theorem ur_minor0 {M : Mx} {v : Nat → Int} {k : Nat} : (fun i j => ur M 0 v (i + 1) (sk k j)) = fun i j => M (i + 1) (sk k j) := by
  funext i j; rw [ur_ne (by omega)]
theorem ur_minor {M : Mx} {v : Nat → Int} {r k : Nat} : (fun i j => ur M (r + 1) v (i + 1) (sk k j)) = ur (fun i j => M (i + 1) (sk k j)) r (fun j => v (sk k j)) := by
  funext i j; unfold ur
  by_cases e : i = r
  · subst e; simp
  · rw [if_neg (by omega), if_neg e]
/-- Linear in each row. -/
theorem dt_lin : ∀ {n : Nat} {M : Mx} {r : Nat} {v w : Nat → Int} {c : Int}, r < n → dt n (ur M r (fun j => v j + c * w j)) = dt n (ur M r v) + c * dt n (ur M r w)
  | 0, _, _, _, _, _, h => by omega
  | n + 1, M, r, v, w, c, h => by
    unfold dt
    rw [← sm_mul, ← sm_add]
    refine sm_congr fun k hk => ?_
    cases r with
    | zero => rw [ur_minor0, ur_minor0, ur_minor0, ur_self, ur_self, ur_self]; grind
    | succ r =>
      rw [ur_minor, ur_minor, ur_minor, dt_lin (n := n) (by omega), ur_ne (by omega), ur_ne (by omega), ur_ne (by omega)]; grind
theorem dt_zrow {n : Nat} {M : Mx} {r : Nat} (hr : r < n) (h : ∀ j, j < n → M r j = 0) : dt n M = 0 := by
  have h1 := dt_lin (n := n) (M := M) (r := r) (v := fun _ => 0) (w := fun _ => 0) (c := 1) hr
  have h2 : dt n M = dt n (ur M r fun _ => 0) := dt_congr fun i hi j hj => by
    unfold ur; split
    · rename_i e; subst e; exact h j hj
    · rfl
  have h3 : (fun _ : Nat => (0 : Int) + 1 * 0) = fun _ => 0 := by funext _; rfl
  rw [h3] at h1; omega
theorem sm_pairs {N : Nat} {F : Nat → Nat → Int} : sm (N + 1) (fun k => sm N fun l => F k l) = sm N fun k => sm N fun l => if k ≤ l then F k l + F (l + 1) k else 0 := by
  have e1 : sm (N + 1) (fun k => sm N fun l => F k l) = sm (N + 1) (fun k => sm N fun l => if k ≤ l then F k l else 0) + sm (N + 1) (fun k => sm N fun l => if k ≤ l then 0 else F k l) := by
    rw [← sm_add]; refine sm_congr fun k hk => ?_
    rw [← sm_add]; refine sm_congr fun l hl => ?_
    split <;> omega
  have e2 : sm (N + 1) (fun k => sm N fun l => if k ≤ l then F k l else 0) = sm N (fun k => sm N fun l => if k ≤ l then F k l else 0) := by
    rw [sm, sm_zero (f := fun l => if N ≤ l then F N l else 0) (fun l hl => if_neg (by omega))]; omega
  have e3 : sm (N + 1) (fun k => sm N fun l => if k ≤ l then 0 else F k l) = sm N (fun k => sm N fun l => if k ≤ l then F (l + 1) k else 0) := by
    rw [sm_front, sm_zero (f := fun l => if 0 ≤ l then 0 else F 0 l) (fun l hl => if_pos (by omega)), sm_comm (n := N) (m := N) (f := fun k l => if k ≤ l then F (l + 1) k else 0)]
    rw [Int.zero_add]
    refine sm_congr fun k hk => sm_congr fun l hl => ?_
    by_cases e : k + 1 ≤ l
    · rw [if_pos e, if_neg (by omega)]
    · rw [if_neg e, if_pos (by omega)]
  rw [e1, e2, e3, ← sm_add]
  refine sm_congr fun k hk => ?_
  rw [← sm_add]; refine sm_congr fun l hl => ?_
  split <;> omega
theorem dt_adj0 {n : Nat} {M : Mx} (h : ∀ j, M 0 j = M 1 j) : dt (n + 2) M = 0 := by
  have e : dt (n + 2) M = sm (n + 2) fun k => sm (n + 1) fun l => sg k * M 0 k * (sg l * M 1 (sk k l) * dt n fun i j => M (i + 2) (sk k (sk l j))) := by
    rw [dt]; refine sm_congr fun k hk => ?_
    rw [sm_mul]; rfl
  rw [e, sm_pairs]
  refine sm_zero fun k hk => sm_zero fun l hl => ?_
  by_cases hkl : k ≤ l
  · rw [if_pos hkl]
    have a1 : sk k l = l + 1 := by unfold sk; split <;> omega
    have a2 : sk (l + 1) k = k := by unfold sk; split <;> omega
    have a3 : (fun i j => M (i + 2) (sk k (sk l j))) = fun i j => M (i + 2) (sk (l + 1) (sk k j)) := by funext i j; rw [sk_sk hkl]
    rw [a1, a2, a3, h k, ← h (l + 1)]
    show _ + - sg l * _ * _ = _
    grind
  · rw [if_neg hkl]
theorem dt_adj : ∀ {r n : Nat} {M : Mx}, r + 1 < n → (∀ j, M r j = M (r + 1) j) → dt n M = 0
  | _, 0, _, h, _ => by omega
  | _, 1, _, h, _ => by omega
  | 0, n + 2, M, h, he => dt_adj0 he
  | r + 1, n + 2, M, h, he => by
    rw [dt]; refine sm_zero fun k hk => ?_
    rw [dt_adj (r := r) (by omega) (fun j => he _)]; omega
/-- Two rows beside each other are exchanged. -/
theorem dt_swap1 {n r : Nat} {M : Mx} (h : r + 1 < n) : dt n (ur (ur M r (M (r + 1))) (r + 1) (M r)) = - dt n M := by
  have z : ∀ (u v : Nat → Int), dt n (ur (ur M r (fun j => u j + 1 * v j)) (r + 1) (fun j => u j + 1 * v j)) = 0 := fun u v =>
    dt_adj h (fun j => by rw [ur_ne (by omega), ur_self, ur_self])
  have zz : ∀ (u : Nat → Int), dt n (ur (ur M r u) (r + 1) u) = 0 := fun u =>
    dt_adj h (fun j => by rw [ur_ne (by omega), ur_self, ur_self])
  have l1 : ∀ (u v b : Nat → Int), dt n (ur (ur M r (fun j => u j + 1 * v j)) (r + 1) b) = dt n (ur (ur M r u) (r + 1) b) + 1 * dt n (ur (ur M r v) (r + 1) b) := fun u v b => by
    rw [ur_comm (by omega), dt_lin (by omega), ur_comm (r := r + 1) (by omega), ur_comm (r := r + 1) (by omega)]
  have h1 := z (M r) (M (r + 1))
  rw [dt_lin h, l1, l1, zz, zz] at h1
  have e : ur (ur M r (M r)) (r + 1) (M (r + 1)) = M := by rw [ur_id, ur_id]
  rw [e] at h1
  omega
theorem dt_same : ∀ {d r s n : Nat} {M : Mx}, s = r + d + 1 → s < n → (∀ j, M r j = M s j) → dt n M = 0
  | 0, r, s, n, M, e, h, he => by subst e; exact dt_adj h he
  | d + 1, r, s, n, M, e, h, he => by
    subst e
    have h1 := dt_swap1 (n := n) (r := r + d + 1) (M := M) (by omega)
    rw [dt_same (d := d) (r := r) (s := r + d + 1) (n := n) rfl (by omega)] at h1
    · omega
    · intro j
      rw [ur_ne (by omega), ur_ne (by omega), ur_ne (by omega), ur_self, he]; rfl
theorem dt_eqrows {n r s : Nat} {M : Mx} (hr : r < n) (hs : s < n) (hne : r ≠ s) (he : ∀ j, M r j = M s j) : dt n M = 0 := by
  by_cases h : r < s
  · exact dt_same (d := s - r - 1) (by omega) hs he
  · exact dt_same (d := r - s - 1) (r := s) (s := r) (by omega) hr (fun j => (he j).symm)
/-- A row and a multiple of another one. -/
theorem dt_rowop {n r s : Nat} {M : Mx} {c : Int} (hr : r < n) (hs : s < n) (hne : r ≠ s) : dt n (ur M r (fun j => M r j + c * M s j)) = dt n M := by
  rw [dt_lin hr, ur_id, dt_eqrows (M := ur M r (M s)) hr hs hne (fun j => by rw [ur_self, ur_ne (Ne.symm hne)])]; omega
/-- Multiples of one row are added to all others. -/
theorem dt_rowops {n s : Nat} {M N : Mx} {c : Nat → Int} (hs : s < n) (h : ∀ i, i < n → ∀ j, j < n → N i j = M i j + (if i = s then 0 else c i * M s j)) : dt n N = dt n M := by
  have key : ∀ t, t ≤ n → dt n (fun i j => M i j + (if i = s then 0 else if i < t then c i * M s j else 0)) = dt n M := by
    intro t
    induction t with
    | zero => intro _; refine dt_congr fun i hi j hj => ?_; simp
    | succ t ih =>
      intro ht
      rw [← ih (by omega)]
      by_cases e : t = s
      · refine dt_congr fun i hi j hj => ?_
        by_cases e2 : i = s
        · rw [if_pos e2, if_pos e2]
        · rw [if_neg e2, if_neg e2]
          by_cases e3 : i < t
          · rw [if_pos e3, if_pos (by omega)]
          · rw [if_neg e3, if_neg (by omega)]
      · refine Eq.trans (dt_congr fun i hi j hj => ?_) (dt_rowop (r := t) (s := s) (c := c t) (by omega) hs e)
        by_cases e2 : i = t
        · subst e2; rw [ur_self]; simp [e]
        · rw [ur_ne e2]
          by_cases e3 : i < t
          · simp [e3, show i < t + 1 by omega]
          · simp [e3, show ¬ i < t + 1 by omega]
  rw [← key n (Nat.le_refl _)]
  refine dt_congr fun i hi j hj => ?_
  rw [h i hi j hj, if_pos hi]

theorem dt_col : ∀ {n : Nat} {M : Mx}, dt (n + 1) M = sm (n + 1) fun i => sg i * M i 0 * dt n fun i' j' => M (sk i i') (j' + 1)
  | 0, M => by simp [dt, sm]
  | n + 1, M => by
    rw [dt, sm_front, sm_front (f := fun i => sg i * M i 0 * dt (n + 1) fun i' j' => M (sk i i') (j' + 1))]
    have e0 : (fun i j => M (i + 1) (sk 0 j)) = fun i j => M (sk 0 i) (j + 1) := by funext i j; rw [sk_zero, sk_zero]
    rw [e0]
    refine congrArg (fun z : Int => (sg 0 * M 0 0 * dt (n + 1) fun i j => M (sk 0 i) (j + 1)) + z) ?_
    have l1 : ∀ k, dt (n + 1) (fun i j => M (i + 1) (sk (k + 1) j)) = sm (n + 1) fun i => sg i * M (i + 1) 0 * dt n fun i' j' => M (sk i i' + 1) (sk k j' + 1) := by
      intro k
      rw [dt_col (n := n)]
      refine sm_congr fun i hi => ?_
      rw [sk_succ0]
      congr 2
      funext i' j'; rw [sk_succ]
    have l2 : ∀ i, dt (n + 1) (fun i' j' => M (sk (i + 1) i') (j' + 1)) = sm (n + 1) fun k => sg k * M 0 (k + 1) * dt n fun i' j' => M (sk i i' + 1) (sk k j' + 1) := by
      intro i
      rw [dt]
      refine sm_congr fun k hk => ?_
      rw [sk_succ0]
      congr 2
      funext i' j'; rw [sk_succ]
    have r1 : sm (n + 1) (fun k => sg (k + 1) * M 0 (k + 1) * dt (n + 1) fun i j => M (i + 1) (sk (k + 1) j)) = sm (n + 1) fun k => sm (n + 1) fun i => sg (k + 1) * M 0 (k + 1) * (sg i * M (i + 1) 0 * dt n fun i' j' => M (sk i i' + 1) (sk k j' + 1)) := by
      refine sm_congr fun k hk => ?_
      rw [l1, sm_mul]
    have r2 : sm (n + 1) (fun i => sg (i + 1) * M (i + 1) 0 * dt (n + 1) fun i' j' => M (sk (i + 1) i') (j' + 1)) = sm (n + 1) fun i => sm (n + 1) fun k => sg (i + 1) * M (i + 1) 0 * (sg k * M 0 (k + 1) * dt n fun i' j' => M (sk i i' + 1) (sk k j' + 1)) := by
      refine sm_congr fun i hi => ?_
      rw [l2, sm_mul]
    rw [r1, r2, sm_comm]
    refine sm_congr fun i hi => sm_congr fun k hk => ?_
    simp only [sg]
    grind
theorem dt_turn : ∀ {n : Nat} {M : Mx}, dt n (fun i j => M j i) = dt n M
  | 0, _ => rfl
  | n + 1, M => by
    rw [dt_col (M := M), dt]
    refine sm_congr fun k hk => ?_
    rw [dt_turn (n := n) (M := fun i' j' => M (sk k i') (j' + 1))]
def dl (i j : Nat) : Int := if i = j then 1 else 0
theorem dt_id : ∀ {n : Nat}, dt n dl = 1
  | 0 => rfl
  | n + 1 => by
    rw [dt, sm_front, sm_zero (fun k hk => by simp [dl])]
    have e : (fun i j => dl (i + 1) (sk 0 j)) = dl := by funext i j; rw [sk_zero]; simp [dl]
    rw [e, dt_id (n := n)]; simp [dl, sg]
/-- A row as a sum. -/
theorem dt_sum {n r m : Nat} {M : Mx} {c : Nat → Int} {v : Nat → Nat → Int} (hr : r < n) : dt n (ur M r (fun j => sm m fun k => c k * v k j)) = sm m fun k => c k * dt n (ur M r (v k)) := by
  induction m with
  | zero => simp only [sm]; exact dt_zrow hr (fun j hj => by rw [ur_self])
  | succ m ih => simp only [sm]; rw [dt_lin hr, ih]
/-- A row by its numbers. -/
def cf (n : Nat) (M : Mx) (i j : Nat) : Int := dt n (ur M i (dl j))
theorem dt_row {n r : Nat} {M : Mx} {v : Nat → Int} (hr : r < n) : dt n (ur M r v) = sm n fun j => v j * cf n M r j := by
  have := dt_sum (n := n) (r := r) (m := n) (M := M) (c := v) (v := dl) hr
  unfold cf
  rw [← this]
  refine dt_congr fun i hi j hj => ?_
  unfold ur
  split
  · exact ((sm_one (f := fun k => v k * dl k j) hj (fun k hk hne => by simp [dl, hne])).trans (by simp [dl])).symm
  · rfl
def uc (M : Mx) (c : Nat) (v : Nat → Int) : Mx := fun i j => if j = c then v i else M i j
theorem dt_uc {n c : Nat} {M : Mx} {v : Nat → Int} : dt n (uc M c v) = dt n (ur (fun i j => M j i) c v) := by
  rw [← dt_turn (M := uc M c v)]; rfl
theorem cf_turn {n : Nat} {M : Mx} {i j : Nat} (hi : i < n) (hj : j < n) : cf n (fun a b => M b a) j i = cf n M i j := by
  -- both are the determinant with row i and column j of one number
  have key : ∀ (M : Mx) (i j : Nat), i < n → j < n → cf n M i j = dt n (fun a b => if a = i then dl j b else if b = j then 0 else M a b) := by
    intro M i j hi hj
    unfold cf
    refine (dt_rowops (s := i) (c := fun a => - M a j) hi (fun a ha b hb => ?_)).symm
    by_cases e : a = i
    · subst e; simp [ur]
    · rw [if_neg e, if_neg e, ur_ne e, ur_self]
      by_cases e2 : b = j
      · subst e2; simp [dl]; omega
      · rw [if_neg e2]; simp [dl, Ne.symm e2]
  rw [key M i j hi hj, key _ j i hj hi, ← dt_turn]
  refine dt_congr fun a ha b hb => ?_
  by_cases e1 : a = i <;> by_cases e2 : b = j
  · subst e1; subst e2; simp [dl]
  · subst e1; simp [dl, e2, Ne.symm e2]
  · subst e2; simp [dl, e1, Ne.symm e1]
  · simp [e1, e2]
/-- A column by its numbers. -/
theorem dt_column {n c : Nat} {M : Mx} {v : Nat → Int} (hc : c < n) : dt n (uc M c v) = sm n fun i => v i * cf n M i c := by
  rw [dt_uc, dt_row hc]
  refine sm_congr fun i hi => ?_
  rw [cf_turn hi hc]
/-- Rows times cofactors. -/
theorem cf_rows {n r s : Nat} {M : Mx} (hr : r < n) (hs : s < n) : sm n (fun j => M s j * cf n M r j) = if r = s then dt n M else 0 := by
  rw [← dt_row hr]
  split
  · rename_i e; subst e; rw [ur_id]
  · rename_i e; exact dt_eqrows hr hs e (fun j => by rw [ur_self, ur_ne (Ne.symm e)])
/-- What is solved by columns is right (Cramer). -/
theorem cramer {n k : Nat} {M : Mx} {v : Nat → Int} (hk : k < n) : sm n (fun j => M k j * dt n (uc M j v)) = dt n M * v k := by
  have e1 : sm n (fun j => M k j * dt n (uc M j v)) = sm n fun j => sm n fun i => v i * (M k j * cf n M i j) := by
    refine sm_congr fun j hj => ?_
    rw [dt_column hj, ← sm_mul]
    refine sm_congr fun i hi => ?_
    grind
  have e2 : ∀ i, i < n → sm n (fun j => v i * (M k j * cf n M i j)) = v i * (if i = k then dt n M else 0) := by
    intro i hi; rw [sm_mul, cf_rows hi hk]
  rw [e1, sm_comm, sm_congr e2, sm_one hk (fun i hi hne => by rw [if_neg hne]; omega), if_pos rfl, Int.mul_comm]
/-- A multiple of one row is added to all rows. -/
theorem dt_rank1 {n : Nat} {M : Mx} {u v : Nat → Int} {w : Int} : dt n (fun i j => M i j + w * u i * v j) = dt n M + w * sm n fun i => u i * dt n (ur M i v) := by
  have key : ∀ t, t ≤ n → dt n (fun i j => M i j + (if i < t then w * u i * v j else 0)) = dt n M + w * sm t fun i => u i * dt n (ur M i v) := by
    intro t
    induction t with
    | zero => intro _; simp [sm]
    | succ t ih =>
      intro ht
      simp only [sm]
      rw [Int.mul_add, ← Int.add_assoc, ← ih (by omega)]
      have e1 : dt n (fun i j => M i j + (if i < t + 1 then w * u i * v j else 0)) = dt n (ur (fun i j => M i j + (if i < t then w * u i * v j else 0)) t (fun j => M t j + (w * u t) * v j)) := by
        refine dt_congr fun i hi j hj => ?_
        by_cases e : i = t
        · subst e; rw [ur_self]; simp
        · rw [ur_ne e]
          by_cases e3 : i < t
          · simp [e3, show i < t + 1 by omega]
          · simp [e3, show ¬ i < t + 1 by omega]
      rw [e1, dt_lin (by omega)]
      have e2 : dt n (ur (fun i j => M i j + (if i < t then w * u i * v j else 0)) t (M t)) = dt n (fun i j => M i j + (if i < t then w * u i * v j else 0)) := by
        refine dt_congr fun i hi j hj => ?_
        by_cases e : i = t
        · subst e; rw [ur_self]; simp
        · rw [ur_ne e]
      have e3 : dt n (ur (fun i j => M i j + (if i < t then w * u i * v j else 0)) t v) = dt n (ur M t v) := by
        refine dt_rowops (s := t) (c := fun i => if i < t then w * u i else 0) (by omega) fun i hi j hj => ?_
        by_cases e : i = t
        · subst e; rw [ur_self, ur_self]; simp
        · rw [ur_ne e, ur_ne e, ur_self, if_neg e]
          split <;> simp
      rw [e2, e3]
      grind
  have := key n (Nat.le_refl _)
  rw [← this]
  refine dt_congr fun i hi j hj => ?_
  rw [if_pos hi]
end Go.Proofs.YtpfijnklnljccaaDoor

namespace Go.Proofs.YtpfijnklnljccaaDoor
set_option linter.unusedVariables false
set_option linter.unusedSimpArgs false

theorem dt_smul {n r : Nat} {M : Mx} {v : Nat → Int} {c : Int} (hr : r < n) : dt n (ur M r (fun j => c * v j)) = c * dt n (ur M r v) := by
  have h := dt_lin (n := n) (M := M) (r := r) (v := fun _ => 0) (w := v) (c := c) hr
  have z : dt n (ur M r fun _ => 0) = 0 := dt_zrow hr (fun j hj => by rw [ur_self])
  have e : (fun j => 0 + c * v j) = fun j => c * v j := by funext j; omega
  rw [e, z] at h; omega
/-- Multiples of one column are added to all others. -/
theorem dt_colops {n s : Nat} {M N : Mx} {c : Nat → Int} (hs : s < n) (h : ∀ i, i < n → ∀ j, j < n → N i j = M i j + (if j = s then 0 else c j * M i s)) : dt n N = dt n M := by
  rw [← dt_turn (M := N), ← dt_turn (M := M)]
  exact dt_rowops (c := c) hs (fun i hi j hj => h j hj i hi)

abbrev Fm := Nat → Int
def gs : List (Int × Fm) → Nat → Nat → Int
  | [], _, _ => 0
  | (w, v) :: E, i, j => w * v i * v j + gs E i j
/-- The matrix of forms: the functional in the row 0. -/
def mtx (E : List (Int × Fm)) (f : Fm) (A : Nat → Bool) : Mx := fun i j => if i = 0 then f j else if A i then gs E i j else dl i j
/-- What a form is where another one is nothing. -/
def el (v : Fm) (b : Nat) (u : Fm) : Fm := fun j => u j - v b * u b * v j
theorem gs_el {v : Fm} {b : Nat} : ∀ {E : List (Int × Fm)} {i j : Nat}, gs (E.map fun p => (p.1, el v b p.2)) i j = gs E i j - v b * v i * gs E b j - v b * v j * gs E i b + v b * v b * v i * v j * gs E b b
  | [], i, j => by simp [gs]
  | (w, u) :: E, i, j => by
    simp only [gs, List.map_cons]
    rw [gs_el (E := E)]
    simp only [el]
    grind
theorem dt_elim {N b : Nat} {w : Int} {v f : Fm} {E : List (Int × Fm)} {A : Nat → Bool} (hb1 : 1 ≤ b) (hb : b < N) (hA : A b = true) (hs : v b * v b = 1) (hi : ∀ i, 1 ≤ i → i < N → A i = false → v i = 0) :
    dt N (mtx ((w, v) :: E) f A) = dt N (mtx E f A) + w * dt N (mtx (E.map fun p => (p.1, el v b p.2)) (el v b f) (fun i => A i && i != b)) := by
  generalize hS : v b = s at hs
  let u : Nat → Int := fun i => if i = 0 then 0 else if A i then v i else 0
  have hu : u b = s := by simp only [u]; rw [if_neg (by omega), if_pos hA, hS]
  let M := mtx E f A
  let K : Mx := fun i j => M i j - s * u i * M b j
  have e1 : dt N (mtx ((w, v) :: E) f A) = dt N (ur K b (fun j => M b j + (w * s) * v j)) := by
    refine (dt_rowops (s := b) (c := fun i => - (s * u i)) hb fun i hi j hj => ?_).symm
    have hm : ∀ i, mtx ((w, v) :: E) f A i j = M i j + w * u i * v j := by
      intro i
      simp only [M, mtx, u, gs]
      by_cases h0 : i = 0
      · simp [h0]
      · by_cases h1 : A i = true
        · simp [h0, h1]; omega
        · simp [h0, h1]
    rw [hm i, hm b, hu]
    by_cases e : i = b
    · subst e; rw [ur_self, hu]; simp
    · rw [ur_ne e, if_neg e]
      simp only [K]
      grind
  have e2 : dt N (ur K b (M b)) = dt N M := by
    refine dt_rowops (s := b) (c := fun i => - (s * u i)) hb fun i hi j hj => ?_
    by_cases e : i = b
    · subst e; rw [ur_self]; simp
    · rw [ur_ne e, if_neg e]; simp only [K]; grind
  let X0 := ur K b v
  let X1 : Mx := fun i j => X0 i j + (if j = b then 0 else (- (s * v j)) * X0 i b)
  let X2 : Mx := fun i j => X1 i j + (if i = b then 0 else (- (s * X1 i b)) * X1 b j)
  let T := mtx (E.map fun p => (p.1, el v b p.2)) (el v b f) (fun i => A i && i != b)
  have e3 : dt N X1 = dt N X0 := dt_colops (s := b) (c := fun j => - (s * v j)) hb fun i hi j hj => rfl
  have e4 : dt N X2 = dt N X1 := dt_rowops (s := b) (c := fun i => - (s * X1 i b)) hb fun i hi j hj => rfl
  have r0 : ∀ j, X1 b j = s * dl b j := by
    intro j
    simp only [X1, X0]
    rw [ur_self, ur_self]
    by_cases e : j = b
    · subst e; simp [dl, hS]
    · rw [if_neg e, hS]; simp [dl, Ne.symm e]; grind
  have e5 : dt N X2 = s * dt N T := by
    have : dt N X2 = dt N (ur T b (fun j => s * dl b j)) := by
      refine dt_congr fun i hi' j hj => ?_
      by_cases e : i = b
      · subst e; rw [ur_self]; show X1 i j + (if i = i then 0 else _) = _; rw [if_pos rfl, r0]; omega
      · rw [ur_ne e]
        simp only [X2]
        rw [if_neg e, r0]
        by_cases ej : j = b
        · subst ej
          have ht : T i j = 0 := by
            simp only [T, mtx]
            by_cases h0 : i = 0
            · rw [if_pos h0]; simp only [el]; rw [hS]; grind
            · rw [if_neg h0]
              split
              · rw [gs_el, hS]; grind
              · simp [dl, e]
          rw [ht]; simp [dl]; grind
        · have d0 : dl b j = 0 := by simp [dl, Ne.symm ej]
          rw [d0]
          simp only [X1, X0]
          rw [if_neg ej, ur_ne e, ur_ne e]
          simp only [K, T, mtx, M, u]
          by_cases h0 : i = 0
          · simp only [h0, if_true, el, hS]; grind
          · have hbb : (b = 0) = False := by simp; omega
            simp only [h0, if_false, hbb, hA, if_true]
            by_cases h1 : A i = true
            · have : (A i && i != b) = true := by simp [h1, e]
              simp only [h1, this, if_true]
              rw [gs_el, hS]; grind
            · have : (A i && i != b) = false := by simp [h1]
              simp only [h1, this]
              have e' : dl i b = 0 := by simp [dl, e]
              rw [e']; simp
    rw [this, dt_smul hb]
    congr 1
    refine dt_congr fun i hi' j hj => ?_
    by_cases e : i = b
    · subst e; rw [ur_self]; simp only [T, mtx]; rw [if_neg (by omega)]; simp
    · rw [ur_ne e]
  rw [e1, dt_lin hb, e2]
  show _ + w * s * dt N X0 = _
  rw [← e3, ← e4, e5]
  show dt N M + w * s * (s * dt N T) = dt N M + w * dt N T
  grind

structure Ed where
  a : Nat
  b : Nat
  d : Int
  w : Int
abbrev Pt := Nat → Nat
structure Good (P : Pt) : Prop where
  le : ∀ v, P v ≤ v
  id : ∀ v, P (P v) = P v
def hiP (P : Pt) (e : Ed) : Nat := max (P e.a) (P e.b)
def loP (P : Pt) (e : Ed) : Nat := min (P e.a) (P e.b)
def jP (P : Pt) (e : Ed) : Pt := fun v => if P v = hiP P e then loP P e else P v
def jo (P : Pt) (o : Fm) (e : Ed) : Fm := fun v => if P v = hiP P e then (if P e.a < P e.b then o v + (o e.a + e.d - o e.b) else o v + (o e.b - o e.a - e.d)) else o v
theorem Good.zero {P : Pt} (h : Good P) : P 0 = 0 := by have := h.le 0; omega
theorem hiP_or {P : Pt} {e : Ed} : hiP P e = P e.a ∧ loP P e = P e.b ∨ hiP P e = P e.b ∧ loP P e = P e.a := by unfold hiP loP; omega
theorem jP_good {P : Pt} {e : Ed} (h : Good P) : Good (jP P e) := by
  have hl : loP P e ≤ hiP P e := by unfold hiP loP; omega
  have il : P (loP P e) = loP P e := by rcases hiP_or (P := P) (e := e) with ⟨_, h2⟩ | ⟨_, h2⟩ <;> rw [h2, h.id]
  refine ⟨fun v => ?_, fun v => ?_⟩
  · unfold jP; have := h.le v; split <;> omega
  · by_cases e1 : P v = hiP P e
    · have : jP P e v = loP P e := if_pos e1
      rw [this]; unfold jP; rw [il]; split <;> rfl
    · have : jP P e v = P v := if_neg e1
      rw [this]; unfold jP; rw [h.id, if_neg e1]
def ef (P : Pt) (o : Fm) (e : Ed) : Fm := fun j => if j = 0 then o e.b - o e.a - e.d else (if P e.b = j then 1 else 0) - (if P e.a = j then 1 else 0)
/-- The functional x + z times the place i. -/
def pf (P : Pt) (o : Fm) (x z : Int) (i : Nat) : Fm := fun j => if j = 0 then x + z * o i else if P i = j then z else 0
theorem ef_hi {P : Pt} {o : Fm} {e : Ed} (h : P e.a ≠ P e.b) : ef P o e (hiP P e) = if P e.a < P e.b then 1 else -1 := by
  unfold ef hiP
  rw [if_neg (by omega)]
  by_cases h1 : P e.a < P e.b
  · rw [if_pos h1, if_pos (by omega), if_neg (by omega)]; rfl
  · rw [if_neg h1, if_neg (by omega), if_pos (by omega)]; rfl
theorem el_ef {P : Pt} {o : Fm} {e f : Ed} (g : Good P) (h : P e.a ≠ P e.b) : el (ef P o e) (hiP P e) (ef P o f) = ef (jP P e) (jo P o e) f := by
  funext j
  unfold el
  rw [ef_hi h]
  simp only [ef, jP, jo]
  by_cases h1 : P e.a < P e.b
  · have m1 : hiP P e = P e.b := by unfold hiP; omega
    have m2 : loP P e = P e.a := by unfold loP; omega
    simp only [m1, m2, h1, if_true]
    by_cases h0 : j = 0
    · subst h0
      simp only [if_true]
      rw [if_neg (show ¬ P e.b = 0 by omega)]
      split <;> split <;> simp <;> omega
    · simp only [h0, if_false]
      rw [if_neg (show ¬ P e.b = 0 by omega)]
      by_cases c1 : P f.b = P e.b <;> by_cases c2 : P f.a = P e.b <;> simp only [c1, c2, if_true, if_false] <;> (repeat' split) <;> simp <;> omega
  · have m1 : hiP P e = P e.a := by unfold hiP; omega
    have m2 : loP P e = P e.b := by unfold loP; omega
    simp only [m1, m2, h1, if_false]
    by_cases h0 : j = 0
    · subst h0
      simp only [if_true]
      rw [if_neg (show ¬ P e.a = 0 by omega)]
      split <;> split <;> simp <;> omega
    · simp only [h0, if_false]
      rw [if_neg (show ¬ P e.a = 0 by omega)]
      by_cases c1 : P f.b = P e.a <;> by_cases c2 : P f.a = P e.a <;> simp only [c1, c2, if_true, if_false] <;> (repeat' split) <;> simp <;> omega
theorem el_pf {P : Pt} {o : Fm} {e : Ed} {x z : Int} {i : Nat} (g : Good P) (h : P e.a ≠ P e.b) : el (ef P o e) (hiP P e) (pf P o x z i) = pf (jP P e) (jo P o e) x z i := by
  funext j
  unfold el
  rw [ef_hi h]
  simp only [ef, pf, jP, jo]
  by_cases h1 : P e.a < P e.b
  · have m1 : hiP P e = P e.b := by unfold hiP; omega
    have m2 : loP P e = P e.a := by unfold loP; omega
    simp only [m1, m2, h1, if_true]
    rw [if_neg (show ¬ P e.b = 0 by omega)]
    by_cases h0 : j = 0
    · simp only [h0, if_true]
      split
      · grind
      · grind
    · simp only [h0, if_false]
      by_cases c1 : P i = P e.b <;> simp only [c1, if_true, if_false] <;> (repeat' split) <;> simp <;> omega
  · have m1 : hiP P e = P e.a := by unfold hiP; omega
    have m2 : loP P e = P e.b := by unfold loP; omega
    simp only [m1, m2, h1, if_false]
    rw [if_neg (show ¬ P e.a = 0 by omega)]
    by_cases h0 : j = 0
    · simp only [h0, if_true]
      split
      · grind
      · grind
    · simp only [h0, if_false]
      by_cases c1 : P i = P e.a <;> simp only [c1, if_true, if_false] <;> (repeat' split) <;> simp <;> omega
def act (P : Pt) : Nat → Bool := fun i => P i == i
theorem act_jP {P : Pt} {e : Ed} (g : Good P) (h : P e.a ≠ P e.b) : (fun i => act P i && i != hiP P e) = act (jP P e) := by
  funext i
  have il : P (loP P e) = loP P e := by rcases hiP_or (P := P) (e := e) with ⟨_, h2⟩ | ⟨_, h2⟩ <;> rw [h2, g.id]
  have hne : loP P e ≠ hiP P e := by unfold loP hiP; omega
  unfold act jP
  by_cases e1 : P i = hiP P e
  · rw [if_pos e1]
    have : (loP P e == i) = false := by
      rw [beq_eq_false_iff_ne]; intro hh; rw [← hh, il] at e1; exact hne e1
    rw [this]
    by_cases e2 : P i = i
    · have : (i != hiP P e) = false := by simp; omega
      rw [this]; simp
    · simp [e2]
  · rw [if_neg e1]
    by_cases e2 : P i = i
    · have : (i != hiP P e) = true := by simp; intro hh; apply e1; omega
      rw [this]; simp
    · simp [e2]
/-- All places up to m are in one part. -/
def one (m : Nat) (P : Pt) : Bool := (List.range (m + 1)).all fun v => P v == 0
theorem one_iff {m : Nat} {P : Pt} : one m P = true ↔ ∀ v, v ≤ m → P v = 0 := by
  unfold one; rw [List.all_eq_true]
  exact ⟨fun h v hv => by simpa using h v (by simp; omega), fun h v hv => by simpa using h v (by simp at hv; omega)⟩
/-- The sum over the sets of legs that make one part of all. -/
def ts (m : Nat) : Pt → Fm → List Ed → (Fm → Int) → Int
  | P, o, [], g => if one m P then g o else 0
  | P, o, e :: E, g => ts m P o E g + if P e.a = P e.b then 0 else e.w * ts m (jP P e) (jo P o e) E g
def efs (P : Pt) (o : Fm) (E : List Ed) : List (Int × Fm) := E.map fun e => (e.w, ef P o e)
theorem dt_ts {m : Nat} {x z : Int} {i : Nat} (hi : i ≤ m) : ∀ {E : List Ed} {P : Pt} {o : Fm}, Good P → (∀ e ∈ E, e.a ≤ m ∧ e.b ≤ m) → dt (m + 1) (mtx (efs P o E) (pf P o x z i) (act P)) = ts m P o E (fun o => x + z * o i)
  | [], P, o, g, _ => by
    unfold ts
    by_cases h : one m P = true
    · rw [if_pos h]
      rw [one_iff] at h
      have e1 : dt (m + 1) (mtx (efs P o []) (pf P o x z i) (act P)) = dt (m + 1) (ur dl 0 (pf P o x z i)) := by
        refine dt_congr fun r hr j hj => ?_
        unfold mtx ur
        by_cases h0 : r = 0
        · rw [if_pos h0, if_pos h0]
        · rw [if_neg h0, if_neg h0, if_neg]
          unfold act; rw [h r (by omega)]; simp; omega
      rw [e1, dt_row (by omega), sm_one (j := 0) (by omega)]
      · unfold cf
        have : ur dl 0 (dl 0) = dl := ur_id
        rw [this, dt_id]; simp [pf]
      · intro k hk hne
        unfold cf
        rw [dt_eqrows (r := 0) (s := k) (by omega) hk (Ne.symm hne) (fun j => by rw [ur_self, ur_ne hne])]; omega
    · rw [if_neg h]
      have : ∃ v, v ≤ m ∧ P v ≠ 0 := by
        apply Classical.byContradiction
        intro hh
        apply h; rw [one_iff]; intro v hv
        apply Classical.byContradiction
        intro h2; exact hh ⟨v, hv, h2⟩
      obtain ⟨v, hv, hne⟩ := this
      have := g.le v
      refine dt_zrow (r := P v) (by omega) fun j hj => ?_
      unfold mtx
      rw [if_neg hne, if_pos (by unfold act; rw [g.id]; simp)]
      rfl
  | e :: E, P, o, g, hE => by
    have hE' : ∀ e ∈ E, e.a ≤ m ∧ e.b ≤ m := fun f hf => hE f (List.mem_cons_of_mem _ hf)
    have he := hE e List.mem_cons_self
    have b1 := g.le e.a
    have b2 := g.le e.b
    unfold ts
    rw [← dt_ts hi g hE']
    by_cases h : P e.a = P e.b
    · rw [if_pos h]
      have : dt (m + 1) (mtx (efs P o (e :: E)) (pf P o x z i) (act P)) = dt (m + 1) (mtx (efs P o E) (pf P o x z i) (act P)) := by
        refine dt_congr fun r hr j hj => ?_
        unfold mtx
        by_cases h0 : r = 0
        · rw [if_pos h0, if_pos h0]
        · rw [if_neg h0, if_neg h0]
          split
          · show e.w * ef P o e r * ef P o e j + _ = _
            have : ef P o e r = 0 := by unfold ef; rw [if_neg h0, h]; omega
            rw [this]; simp [efs]
          · rfl
      rw [this]; omega
    · rw [if_neg h, ← dt_ts hi (jP_good g) hE']
      have hh : 1 ≤ hiP P e := by unfold hiP; omega
      have hh2 : hiP P e < m + 1 := by unfold hiP; omega
      have ha : act P (hiP P e) = true := by
        unfold act; rcases hiP_or (P := P) (e := e) with ⟨h2, _⟩ | ⟨h2, _⟩ <;> rw [h2, g.id] <;> simp
      have := dt_elim (N := m + 1) (b := hiP P e) (w := e.w) (v := ef P o e) (f := pf P o x z i) (E := efs P o E) (A := act P) hh hh2 ha (by rw [ef_hi h]; split <;> rfl) (fun r hr1 hr hA => by
        unfold act at hA
        unfold ef
        rw [if_neg (by omega)]
        have n1 : P e.b ≠ r := fun hh => by rw [← hh, g.id] at hA; simp at hA
        have n2 : P e.a ≠ r := fun hh => by rw [← hh, g.id] at hA; simp at hA
        rw [if_neg n1, if_neg n2]; rfl)
      rw [act_jP g h, el_pf g h] at this
      have em : (efs P o E).map (fun p => (p.1, el (ef P o e) (hiP P e) p.2)) = efs (jP P e) (jo P o e) E := by
        unfold efs; rw [List.map_map]; apply List.map_congr_left; intro f _; simp only [Function.comp]; rw [el_ef g h]
      rw [em] at this
      exact this
end Go.Proofs.YtpfijnklnljccaaDoor

namespace Go.Proofs.YtpfijnklnljccaaDoor
set_option linter.unusedVariables false
set_option linter.unusedSimpArgs false

instance : Inhabited Ed := ⟨⟨0, 0, 0, 0⟩⟩
def es (f : Ed → Int) : List Ed → Int
  | [] => 0
  | e :: E => f e + es f E
theorem es_congr {f g : Ed → Int} : ∀ {E : List Ed}, (∀ e ∈ E, f e = g e) → es f E = es g E
  | [], _ => rfl
  | e :: E, h => by unfold es; rw [h e List.mem_cons_self, es_congr (fun x hx => h x (List.mem_cons_of_mem _ hx))]
theorem es_mul {c : Int} {f : Ed → Int} : ∀ {E : List Ed}, es (fun e => c * f e) E = c * es f E
  | [] => by simp [es]
  | e :: E => by simp only [es, es_mul (E := E)]; grind
theorem es_zero {f : Ed → Int} : ∀ {E : List Ed}, (∀ e ∈ E, f e = 0) → es f E = 0
  | [], _ => rfl
  | e :: E, h => by unfold es; rw [h e List.mem_cons_self, es_zero (fun x hx => h x (List.mem_cons_of_mem _ hx))]; rfl
theorem es_nonneg {f : Ed → Int} : ∀ {E : List Ed}, (∀ e ∈ E, 0 ≤ f e) → 0 ≤ es f E
  | [], _ => by simp [es]
  | e :: E, h => by
    unfold es; have := h e List.mem_cons_self; have := es_nonneg (fun x hx => h x (List.mem_cons_of_mem _ hx)); omega
theorem es_eq_zero {f : Ed → Int} : ∀ {E : List Ed}, (∀ e ∈ E, 0 ≤ f e) → es f E ≤ 0 → ∀ e ∈ E, f e = 0
  | [], _, _, _, hx => by cases hx
  | e :: E, h, hs, x, hx => by
    unfold es at hs
    have h1 := h e List.mem_cons_self
    have h2 := es_nonneg (fun x hx => h x (List.mem_cons_of_mem _ hx))
    rcases List.mem_cons.1 hx with rfl | hx
    · omega
    · exact es_eq_zero (fun x hx => h x (List.mem_cons_of_mem _ hx)) (by omega) x hx
theorem es_sm {n : Nat} {f : Nat → Ed → Int} : ∀ {E : List Ed}, sm n (fun k => es (f k) E) = es (fun e => sm n fun k => f k e) E
  | [] => by simp only [es]; exact sm_zero (fun _ _ => rfl)
  | e :: E => by simp only [es]; rw [sm_add, es_sm (E := E)]

/-- How a leg is at a place: 1 if it ends there, -1 if it begins there. -/
def xv (e : Ed) (u : Nat) : Int := (if e.b = u then 1 else 0) - (if e.a = u then 1 else 0)
def dd (y : Nat → Int) (e : Ed) : Int := y e.b - y e.a
def Inm (m : Nat) (E : List Ed) : Prop := ∀ e ∈ E, e.a ≤ m ∧ e.b ≤ m
theorem sm_ite {n a : Nat} {z : Nat → Int} (h : a < n) : sm n (fun u => z u * (if a = u then 1 else 0)) = z a := by
  rw [sm_one h (fun k hk hne => by rw [if_neg (Ne.symm hne)]; omega), if_pos rfl]; omega
theorem sm_xv {m : Nat} {z : Nat → Int} {e : Ed} (h : e.a ≤ m ∧ e.b ≤ m) : sm (m + 1) (fun u => z u * xv e u) = dd z e := by
  have e1 : (fun u => z u * xv e u) = fun u => z u * (if e.b = u then 1 else 0) + -1 * (z u * (if e.a = u then 1 else 0)) := by
    funext u; unfold xv; grind
  rw [e1, sm_add, sm_mul, sm_ite (by omega), sm_ite (by omega)]; unfold dd; omega
def lap (E : List Ed) (u v : Nat) : Int := es (fun e => e.w * xv e u * xv e v) E
/-- What goes out of a place, where the pressures are y. -/
def kc (E : List Ed) (y : Nat → Int) (u : Nat) : Int := es (fun e => e.w * xv e u * dd y e) E
theorem lap_kc {m : Nat} {E : List Ed} {y : Nat → Int} {u : Nat} (h : Inm m E) : sm (m + 1) (fun v => lap E u v * y v) = kc E y u := by
  unfold lap kc
  have e1 : (fun v => es (fun e => e.w * xv e u * xv e v) E * y v) = fun v => es (fun e => e.w * xv e u * (y v * xv e v)) E := by
    funext v; rw [Int.mul_comm, ← es_mul]; refine es_congr fun e he => ?_; grind
  rw [e1, es_sm]
  refine es_congr fun e he => ?_
  rw [sm_mul, sm_xv (h e he)]
/-- By parts. -/
theorem kc_parts {m : Nat} {E : List Ed} {y z : Nat → Int} (h : Inm m E) : sm (m + 1) (fun u => z u * kc E y u) = es (fun e => e.w * dd z e * dd y e) E := by
  unfold kc
  have e1 : (fun u => z u * es (fun e => e.w * xv e u * dd y e) E) = fun u => es (fun e => (e.w * dd y e) * (z u * xv e u)) E := by
    funext v; rw [← es_mul]; refine es_congr fun e he => ?_; grind
  rw [e1, es_sm]
  refine es_congr fun e he => ?_
  rw [sm_mul, sm_xv (h e he)]; grind
/-- All together nothing goes out. -/
theorem kc_total {m : Nat} {E : List Ed} {y : Nat → Int} (h : Inm m E) : sm (m + 1) (fun u => kc E y u) = 0 := by
  have := kc_parts (y := y) (z := fun _ => 1) h
  have e1 : (fun u => (1 : Int) * kc E y u) = fun u => kc E y u := by funext u; omega
  rw [e1] at this
  rw [this]; exact es_zero (fun e he => by simp [dd])
def L0 (E : List Ed) : Mx := fun i j => lap E (i + 1) (j + 1)
def D (m : Nat) (E : List Ed) : Int := dt m (L0 E)
def pid : Pt := fun v => v
def z0 : Fm := fun _ => 0
theorem pid_good : Good pid := ⟨fun v => Nat.le_refl v, fun v => rfl⟩
theorem gs_lap {E : List Ed} {i j : Nat} : gs (efs pid z0 E) (i + 1) (j + 1) = lap E (i + 1) (j + 1) := by
  induction E with
  | nil => rfl
  | cons e E ih =>
    show e.w * ef pid z0 e (i + 1) * ef pid z0 e (j + 1) + gs (efs pid z0 E) (i + 1) (j + 1) = _
    rw [ih]; rfl
theorem act_pid : act pid = fun _ => true := by funext i; simp [act, pid]
/-- Trees are counted, each by its weight, by the determinant. -/
theorem D_ts {m : Nat} {E : List Ed} (h : Inm m E) : D m E = ts m pid z0 E (fun _ => 1) := by
  have h1 := dt_ts (m := m) (x := 1) (z := 0) (i := 0) (Nat.zero_le _) (o := z0) pid_good h
  have e0 : (fun o : Fm => (1 : Int) + 0 * o 0) = fun _ => 1 := by funext o; omega
  rw [e0] at h1
  rw [← h1, dt, sm_one (j := 0) (by omega)]
  · have e1 : sg 0 = 1 := rfl
    have e2 : mtx (efs pid z0 E) (pf pid z0 1 0 0) (act pid) 0 0 = 1 := by simp [mtx, pf]
    rw [e1, e2]
    unfold D
    simp only [Int.one_mul]
    refine dt_congr fun i hi j hj => ?_
    rw [sk_zero]
    unfold mtx
    rw [if_neg (by omega), act_pid, if_pos rfl, gs_lap]; rfl
  · intro k hk hne
    have : mtx (efs pid z0 E) (pf pid z0 1 0 0) (act pid) 0 k = 0 := by simp [mtx, pf, hne]
    rw [this]; simp
def Conn (m : Nat) (E : List Ed) : Prop := ∀ Q : Nat → Prop, (∀ e ∈ E, Q e.a ↔ Q e.b) → ∀ v, v ≤ m → (Q v ↔ Q 0)
def fj (P : Pt) (E : List Ed) : Pt := E.foldl jP P
theorem jP_eq {P : Pt} {e : Ed} : jP P e e.a = jP P e e.b := by
  unfold jP
  rcases hiP_or (P := P) (e := e) with ⟨h1, h2⟩ | ⟨h1, h2⟩
  · rw [if_pos h1.symm, h2]; split <;> rfl
  · rw [if_pos (show P e.b = hiP P e from h1.symm), h2]; split <;> rfl
theorem jP_keep {P : Pt} {e : Ed} {u v : Nat} (h : P u = P v) : jP P e u = jP P e v := by unfold jP; rw [h]
theorem fj_good : ∀ {E : List Ed} {P : Pt}, Good P → Good (fj P E)
  | [], _, h => h
  | e :: E, P, h => fj_good (E := E) (jP_good h)
theorem fj_keep : ∀ {E : List Ed} {P : Pt} {u v : Nat}, P u = P v → fj P E u = fj P E v
  | [], _, _, _, h => h
  | e :: E, P, u, v, h => fj_keep (E := E) (jP_keep h)
theorem fj_eq : ∀ {E : List Ed} {P : Pt} {e : Ed}, e ∈ E → fj P E e.a = fj P E e.b
  | f :: E, P, e, h => by
    show fj (jP P f) E e.a = fj (jP P f) E e.b
    rcases List.mem_cons.1 h with rfl | h
    · exact fj_keep jP_eq
    · exact fj_eq h
theorem fj_resp {Q : Nat → Prop} : ∀ {E : List Ed} {P : Pt}, (∀ v, Q v ↔ Q (P v)) → (∀ e ∈ E, Q e.a ↔ Q e.b) → ∀ v, Q v ↔ Q (fj P E v)
  | [], _, h, _ => h
  | e :: E, P, h, he => by
    refine fj_resp (E := E) (P := jP P e) (fun v => ?_) (fun f hf => he f (List.mem_cons_of_mem _ hf))
    have h1 := he e List.mem_cons_self
    have h2 : Q (hiP P e) ↔ Q (loP P e) := by
      rcases hiP_or (P := P) (e := e) with ⟨a1, a2⟩ | ⟨a1, a2⟩
      · rw [a1, a2, ← h, ← h]; exact h1
      · rw [a1, a2, ← h, ← h]; exact h1.symm
    unfold jP
    split
    · rename_i hv; rw [← h2, ← hv]; exact h v
    · exact h v
theorem conn_iff {m : Nat} {E : List Ed} : one m (fj pid E) = true ↔ Conn m E := by
  rw [one_iff]
  constructor
  · intro h Q hq v hv
    rw [fj_resp (P := pid) (fun v => Iff.rfl) hq v, h v hv]
  · intro h v hv
    have := h (fun v => fj pid E v = 0) (fun e he => by rw [fj_eq he]) v hv
    rw [this]; exact (fj_good pid_good).zero
theorem jP_same {P : Pt} {e : Ed} (h : P e.a = P e.b) : jP P e = P := by
  funext v; unfold jP hiP loP; rw [h]; split
  · rename_i h1; omega
  · rfl
theorem fj_mono : ∀ {E : List Ed} {P P' : Pt}, (∀ u v, P u = P v → P' u = P' v) → ∀ u v, fj P E u = fj P E v → fj P' E u = fj P' E v
  | [], _, _, h => h
  | e :: E, P, P', h => by
    refine fj_mono (E := E) (P := jP P e) (P' := jP P' e) fun u v huv => ?_
    have ab := jP_eq (P := P') (e := e)
    unfold jP at huv
    split at huv
    · rename_i h1
      split at huv
      · rename_i h2; exact jP_keep (h u v (by omega))
      · rcases hiP_or (P := P) (e := e) with ⟨a1, a2⟩ | ⟨a1, a2⟩
        · rw [jP_keep (h u e.a (by omega)), ab]; exact (jP_keep (h v e.b (by omega))).symm
        · rw [jP_keep (h u e.b (by omega)), ← ab]; exact (jP_keep (h v e.a (by omega))).symm
    · split at huv
      · rename_i h2
        rcases hiP_or (P := P) (e := e) with ⟨a1, a2⟩ | ⟨a1, a2⟩
        · rw [jP_keep (h v e.a (by omega)), ab]; exact jP_keep (h u e.b (by omega))
        · rw [jP_keep (h v e.b (by omega)), ← ab]; exact jP_keep (h u e.a (by omega))
      · exact jP_keep (h u v huv)
theorem one_fj {m : Nat} {E : List Ed} {P : Pt} (g : Good P) : one m (fj P E) = true ↔ ∀ v, v ≤ m → fj P E v = fj P E 0 := by
  rw [one_iff]
  have := (fj_good (E := E) g).zero
  exact ⟨fun h v hv => by rw [h v hv, this], fun h v hv => by rw [h v hv, this]⟩
theorem ts_pos {m : Nat} : ∀ {E : List Ed} {P : Pt} {o : Fm}, Good P → (∀ e ∈ E, 0 < e.w) → 0 ≤ ts m P o E (fun _ => 1) ∧ (0 < ts m P o E (fun _ => 1) ↔ one m (fj P E) = true)
  | [], P, o, g, _ => by
    unfold ts
    show _ ∧ (_ ↔ one m P = true)
    split <;> simp [*]
  | e :: E, P, o, g, hw => by
    have hw' : ∀ e ∈ E, 0 < e.w := fun f hf => hw f (List.mem_cons_of_mem _ hf)
    have he := hw e List.mem_cons_self
    have h1 := ts_pos (m := m) (o := o) g hw'
    have h2 := ts_pos (m := m) (P := jP P e) (o := jo P o e) (jP_good g) hw'
    unfold ts
    show _ ∧ (_ ↔ one m (fj (jP P e) E) = true)
    by_cases h : P e.a = P e.b
    · rw [if_pos h, jP_same h]; simpa using h1
    · rw [if_neg h]
      have h3 := Int.mul_nonneg (Int.le_of_lt he) h2.1
      refine ⟨by omega, ?_⟩
      constructor
      · intro hp
        by_cases hp2 : 0 < ts m (jP P e) (jo P o e) E (fun _ => 1)
        · exact h2.2.1 hp2
        · have : ts m (jP P e) (jo P o e) E (fun _ => 1) = 0 := by omega
          rw [this] at hp
          have ho := h1.2.1 (by omega)
          rw [one_fj g] at ho
          rw [one_fj (jP_good g)]
          intro v hv
          exact fj_mono (P := P) (fun u v huv => jP_keep huv) v 0 (ho v hv)
      · intro ho
        have := Int.mul_pos he (h2.2.2 ho)
        omega
theorem D_nonneg {m : Nat} {E : List Ed} (h : Inm m E) (hw : ∀ e ∈ E, 0 < e.w) : 0 ≤ D m E := by
  rw [D_ts h]; exact (ts_pos pid_good hw).1
theorem D_pos {m : Nat} {E : List Ed} (h : Inm m E) (hw : ∀ e ∈ E, 0 < e.w) : 0 < D m E ↔ Conn m E := by
  rw [D_ts h, (ts_pos pid_good hw).2, conn_iff]
def pw : List Ed → Int
  | [] => 1
  | e :: E => (1 + e.w) * pw E
theorem pw_pos : ∀ {E : List Ed}, (∀ e ∈ E, 0 ≤ e.w) → 1 ≤ pw E
  | [], _ => by simp [pw]
  | e :: E, h => by
    have h1 := pw_pos (fun x hx => h x (List.mem_cons_of_mem _ hx))
    have h2 := h e List.mem_cons_self
    unfold pw
    have := Int.mul_le_mul (show (1 : Int) ≤ 1 + e.w by omega) h1 (by omega) (by omega)
    omega
theorem ts_le {m : Nat} {g : Fm → Int} : ∀ {E : List Ed} {P : Pt} {o : Fm}, (∀ e ∈ E, 0 ≤ e.w) → (∀ o, g o = 1) → 0 ≤ ts m P o E g ∧ ts m P o E g ≤ pw E
  | [], P, o, _, hg => by
    unfold ts pw; rw [hg]; split <;> simp
  | e :: E, P, o, hw, hg => by
    have hw' : ∀ e ∈ E, 0 ≤ e.w := fun f hf => hw f (List.mem_cons_of_mem _ hf)
    have he := hw e List.mem_cons_self
    have h1 := ts_le (m := m) (P := P) (o := o) hw' hg
    have h2 := ts_le (m := m) (P := jP P e) (o := jo P o e) hw' hg
    have hp := pw_pos hw'
    unfold ts pw
    rw [Int.add_mul]
    have h3 := Int.mul_le_mul_of_nonneg_left h2.2 he
    have h4 := Int.mul_nonneg he h2.1
    split
    · have := Int.mul_nonneg he (show 0 ≤ pw E by omega); omega
    · omega
end Go.Proofs.YtpfijnklnljccaaDoor

namespace Go.Proofs.YtpfijnklnljccaaDoor
set_option linter.unusedVariables false
set_option linter.unusedSimpArgs false

def has (s k : Nat) : Bool := s / 2 ^ k % 2 == 1
/-- The indices of a set's legs below n, in ascending order. -/
def ix (n s : Nat) : List Nat := (List.range n).filter (has s)
/-- The places are joined by legs one by one, each of which joins. -/
def jok : Pt → List Ed → Bool
  | _, [] => true
  | P, e :: E => (P e.a != P e.b) && jok (jP P e) E
def cn (m : Nat) (P : Pt) : Nat := ((List.range (m + 1)).filter fun v => P v == v).length
theorem filter_split {α : Type} {p q : α → Bool} {x : α} : ∀ {l : List α}, l.Nodup → x ∈ l → p x = true → q x = false → (∀ y, y ≠ x → q y = p y) → (l.filter q).length + 1 = (l.filter p).length
  | [], _, h, _, _, _ => by cases h
  | y :: l, hn, hx, hp, hq, h => by
    rw [List.nodup_cons] at hn
    by_cases e : y = x
    · subst e
      rw [List.filter_cons_of_pos hp, List.filter_cons_of_neg (by simp [hq]), List.length_cons]
      congr 2
      refine List.filter_congr fun z hz => h z fun e => ?_
      subst e; exact hn.1 hz
    · have hx' : x ∈ l := by
        rcases List.mem_cons.1 hx with hh | hh
        · exact absurd hh.symm e
        · exact hh
      have ih := filter_split (l := l) hn.2 hx' hp hq h
      have hy := h y e
      by_cases hpy : p y = true
      · rw [List.filter_cons_of_pos hpy, List.filter_cons_of_pos (by rw [hy]; exact hpy), List.length_cons, List.length_cons]; omega
      · rw [List.filter_cons_of_neg hpy, List.filter_cons_of_neg (by rw [hy]; exact hpy)]; exact ih
theorem cn_join {m : Nat} {P : Pt} {e : Ed} (g : Good P) (he : e.a ≤ m ∧ e.b ≤ m) (h : P e.a ≠ P e.b) : cn m (jP P e) + 1 = cn m P := by
  unfold cn
  have b1 := g.le e.a
  have b2 := g.le e.b
  refine filter_split (x := hiP P e) List.nodup_range (by simp; unfold hiP; omega) ?_ ?_ ?_
  · rcases hiP_or (P := P) (e := e) with ⟨h2, _⟩ | ⟨h2, _⟩ <;> rw [h2, g.id] <;> simp
  · have := congrFun (act_jP g h) (hiP P e)
    simp only [bne_self_eq_false, Bool.and_false] at this
    exact this.symm
  · intro y hy
    have := congrFun (act_jP g h) y
    have hy2 : (y != hiP P e) = true := by simpa using hy
    rw [hy2, Bool.and_true] at this
    exact this.symm
theorem cn_pid {m : Nat} : cn m pid = m + 1 := by
  unfold cn pid
  rw [List.filter_eq_self.2 (by simp)]; simp
theorem cn_one {m : Nat} {P : Pt} (g : Good P) : cn m P = 1 ↔ one m P = true := by
  have z : (P 0 == 0) = true := by simp [g.zero]
  have e1 : cn m P = ((List.range m).filter fun v => P (v + 1) == v + 1).length + 1 := by
    unfold cn
    rw [List.range_succ_eq_map, List.filter_cons_of_pos (p := fun v => P v == v) z, List.length_cons, List.filter_map, List.length_map]
    rfl
  rw [e1, one_iff]
  constructor
  · intro h v hv
    have h0 : (List.range m).filter (fun v => P (v + 1) == v + 1) = [] := by
      apply List.eq_nil_of_length_eq_zero; omega
    rw [List.filter_eq_nil_iff] at h0
    apply Classical.byContradiction
    intro hne
    have := g.le v
    obtain ⟨u, hu⟩ : ∃ u, P v = u + 1 := ⟨P v - 1, by omega⟩
    refine h0 u (by simp; omega) ?_
    rw [← hu, g.id]; simp
  · intro h
    have h0 : (List.range m).filter (fun v => P (v + 1) == v + 1) = [] := by
      rw [List.filter_eq_nil_iff]
      intro v hv
      rw [List.mem_range] at hv
      rw [h (v + 1) (by omega)]; simp
    rw [h0]; rfl
theorem cn_fj {m : Nat} : ∀ {E : List Ed} {P : Pt}, Good P → Inm m E → cn m P ≤ cn m (fj P E) + E.length ∧ (jok P E = true ↔ cn m (fj P E) + E.length = cn m P)
  | [], P, g, _ => ⟨Nat.le_refl _, by simp [jok, fj]⟩
  | e :: E, P, g, hE => by
    have hE' : Inm m E := fun f hf => hE f (List.mem_cons_of_mem _ hf)
    have he := hE e List.mem_cons_self
    have ih := cn_fj (E := E) (jP_good (e := e) g) hE'
    show cn m P ≤ cn m (fj (jP P e) E) + (E.length + 1) ∧ (_ ↔ cn m (fj (jP P e) E) + (E.length + 1) = cn m P)
    unfold jok
    by_cases h : P e.a = P e.b
    · rw [jP_same h] at ih ⊢
      refine ⟨by omega, ?_⟩
      constructor
      · intro hh; simp [h] at hh
      · intro hh; omega
    · have := cn_join g he h
      have hb : (P e.a != P e.b) = true := by simpa using h
      rw [hb, Bool.true_and]
      refine ⟨by omega, ?_⟩
      rw [ih.2]; omega
end Go.Proofs.YtpfijnklnljccaaDoor

namespace Go.Proofs.YtpfijnklnljccaaDoor
set_option linter.unusedVariables false
set_option linter.unusedSimpArgs false

def src (i o v : Nat) : Int := (if v = i then 1 else 0) - (if v = o then 1 else 0)
theorem src_xv {e : Ed} {v : Nat} : src e.b e.a v = xv e v := by
  unfold src xv
  simp only [eq_comm (a := v)]
theorem sm_src {m i o : Nat} {z : Nat → Int} (hi : i ≤ m) (ho : o ≤ m) : sm (m + 1) (fun v => z v * src i o v) = z i - z o := by
  have := sm_xv (m := m) (z := z) (e := ⟨o, i, 0, 0⟩) ⟨ho, hi⟩
  simp only [← src_xv] at this
  exact this
theorem sm_src1 {m i o : Nat} (hi : i ≤ m) (ho : o ≤ m) : sm (m + 1) (fun v => src i o v) = 0 := by
  have := sm_src (m := m) (z := fun _ => 1) hi ho
  simp only [Int.one_mul] at this
  rw [this]; rfl
theorem kc_at0 {m : Nat} {E : List Ed} {y c : Nat → Int} (h : Inm m E) (h1 : ∀ r, r < m → kc E y (r + 1) = c (r + 1)) (h2 : sm (m + 1) c = 0) : ∀ v, v ≤ m → kc E y v = c v := by
  have t := kc_total (y := y) h
  rw [sm_front] at t h2
  rw [sm_congr (fun k hk => h1 k hk)] at t
  intro v hv
  cases v with
  | zero => omega
  | succ v => exact h1 v (by omega)

theorem arg_max {m : Nat} {y : Nat → Int} : ∃ u, u ≤ m ∧ ∀ v, v ≤ m → y v ≤ y u := by
  induction m with
  | zero =>
    refine ⟨0, Nat.le_refl _, fun v hv => ?_⟩
    have : v = 0 := by omega
    subst this; exact Int.le_refl _
  | succ m ih =>
    obtain ⟨u, hu, h⟩ := ih
    by_cases hc : y (m + 1) ≤ y u
    · refine ⟨u, by omega, fun v hv => ?_⟩
      by_cases e : v = m + 1
      · subst e; exact hc
      · exact h v (by omega)
    · refine ⟨m + 1, Nat.le_refl _, fun v hv => ?_⟩
      by_cases e : v = m + 1
      · subst e; exact Int.le_refl _
      · have := h v (by omega); omega
theorem max_pr {m s : Nat} {E : List Ed} {y : Nat → Int} (hc : Conn m E) (hE : Inm m E) (hw : ∀ e ∈ E, 0 < e.w) (hs : s ≤ m) (h : ∀ v, v ≤ m → v ≠ s → kc E y v ≤ 0) : ∀ v, v ≤ m → y v ≤ y s := by
  obtain ⟨u, hu, hm⟩ := arg_max (m := m) (y := y)
  by_cases hys : y s = y u
  · intro v hv; rw [hys]; exact hm v hv
  exfalso
  -- the places with the greatest pressure are closed
  have loc : ∀ v, v ≤ m → y v = y u → ∀ e ∈ E, e.w * xv e v * dd y e = 0 := by
    intro v hv hyv
    refine es_eq_zero (fun e he => ?_) (h v hv (fun e => hys (by rw [← e]; exact hyv)))
    obtain ⟨ha, hb⟩ := hE e he
    have h1 := hm e.a ha
    have h2 := hm e.b hb
    have h3 := hw e he
    rw [Int.mul_assoc]
    refine Int.mul_nonneg (by omega) ?_
    unfold xv dd
    by_cases c1 : e.b = v <;> by_cases c2 : e.a = v
    · simp [c1, c2]
    · rw [if_pos c1, if_neg c2]; rw [c1]; omega
    · rw [if_neg c1, if_pos c2]; rw [c2]; omega
    · simp [c1, c2]
  have q := hc (fun v => y v = y u) (fun e he => by
    obtain ⟨ha, hb⟩ := hE e he
    have h3 := hw e he
    by_cases hab : e.a = e.b
    · rw [hab]
    constructor
    · intro hya
      have := loc e.a ha hya e he
      have hx : xv e e.a = -1 := by unfold xv; rw [if_neg (Ne.symm hab), if_pos rfl]; rfl
      rw [hx, Int.mul_assoc] at this
      rcases Int.mul_eq_zero.1 this with h0 | h0
      · omega
      · unfold dd at h0; omega
    · intro hyb
      have := loc e.b hb hyb e he
      have hx : xv e e.b = 1 := by unfold xv; rw [if_pos rfl, if_neg hab]; rfl
      rw [hx, Int.mul_assoc] at this
      rcases Int.mul_eq_zero.1 this with h0 | h0
      · omega
      · unfold dd at h0; omega)
  have q1 := (q u hu).1 rfl
  exact hys ((q s hs).2 q1)
def pr (m : Nat) (E : List Ed) (i o : Nat) : Nat → Int
  | 0 => 0
  | k + 1 => dt m (uc (L0 E) k fun r => src i o (r + 1))
theorem pr_cf {m k : Nat} {E : List Ed} {i o : Nat} (hk : k < m) : pr m E i o (k + 1) = sm m fun r => src i o (r + 1) * cf m (L0 E) r k := dt_column hk
theorem lap_kc0 {m : Nat} {E : List Ed} {y : Nat → Int} {u : Nat} (h : Inm m E) (h0 : y 0 = 0) : sm m (fun j => lap E u (j + 1) * y (j + 1)) = kc E y u := by
  rw [← lap_kc h, sm_front, h0]; omega
theorem pr_kc {m : Nat} {E : List Ed} {i o : Nat} (h : Inm m E) (hi : i ≤ m) (ho : o ≤ m) : ∀ v, v ≤ m → kc E (pr m E i o) v = D m E * src i o v := by
  refine kc_at0 h (fun r hr => ?_) (by rw [sm_mul, sm_src1 hi ho]; omega)
  rw [← lap_kc0 h (show pr m E i o 0 = 0 from rfl)]
  exact cramer (M := L0 E) (v := fun r => src i o (r + 1)) hr
theorem pr_add {m : Nat} {E : List Ed} {a b c : Nat} : ∀ v, v ≤ m → pr m E a b v = pr m E a c v + pr m E c b v := by
  intro v hv
  cases v with
  | zero => rfl
  | succ k =>
    rw [pr_cf (by omega), pr_cf (by omega), pr_cf (by omega), ← sm_add]
    refine sm_congr fun r hr => ?_
    unfold src; grind
theorem pr_self {m : Nat} {E : List Ed} {a : Nat} : ∀ v, v ≤ m → pr m E a a v = 0 := by
  intro v hv
  have := pr_add (m := m) (E := E) (a := a) (b := a) (c := a) v hv
  omega
theorem pr_turn {m : Nat} {E : List Ed} {a b : Nat} : ∀ v, v ≤ m → pr m E b a v = - pr m E a b v := by
  intro v hv
  have := pr_add (m := m) (E := E) (a := a) (b := a) (c := b) v hv
  have := pr_self (m := m) (E := E) (a := a) v hv
  omega
theorem pr_max {m : Nat} {E : List Ed} {i o : Nat} (hc : Conn m E) (hE : Inm m E) (hw : ∀ e ∈ E, 0 < e.w) (hi : i ≤ m) (ho : o ≤ m) : ∀ v, v ≤ m → pr m E i o v ≤ pr m E i o i := by
  have hD := (D_pos hE hw).2 hc
  refine max_pr hc hE hw hi fun v hv hne => ?_
  rw [pr_kc hE hi ho v hv]
  unfold src
  rw [if_neg hne]; split
  · omega
  · omega
theorem pr_min {m : Nat} {E : List Ed} {i o : Nat} (hc : Conn m E) (hE : Inm m E) (hw : ∀ e ∈ E, 0 < e.w) (hi : i ≤ m) (ho : o ≤ m) : ∀ v, v ≤ m → pr m E i o o ≤ pr m E i o v := by
  intro v hv
  have := pr_max hc hE hw ho hi v hv
  rw [pr_turn v hv, pr_turn o ho] at this; omega
/-- The resistance times the trees. -/
def rs (m : Nat) (E : List Ed) (a b : Nat) : Int := pr m E a b a - pr m E a b b
theorem rs_quad {m : Nat} {E : List Ed} {a b : Nat} (ha : a ≤ m) (hb : b ≤ m) : sm m (fun i => src a b (i + 1) * dt m (ur (L0 E) i fun r => src a b (r + 1))) = rs m E a b := by
  have e1 : ∀ v, v ≤ m → sm (m + 1) (fun v => pr m E a b v * src a b v) = rs m E a b := fun _ _ => sm_src ha hb
  rw [← e1 0 (Nat.zero_le _), sm_front]
  have : pr m E a b 0 = 0 := rfl
  rw [this, Int.zero_mul, Int.zero_add]
  have e2 : ∀ k, k < m → pr m E a b (k + 1) * src a b (k + 1) = sm m fun r => src a b (r + 1) * src a b (k + 1) * cf m (L0 E) r k := by
    intro k hk; rw [pr_cf hk, Int.mul_comm, ← sm_mul]; refine sm_congr fun r hr => ?_; grind
  rw [sm_congr e2, sm_comm]
  refine sm_congr fun r hr => ?_
  rw [dt_row hr, ← sm_mul]
  refine sm_congr fun k hk => ?_
  grind
/-- The matrix with a leg's weight other by c. -/
theorem D_more {m : Nat} {E E' : List Ed} {e : Ed} {c : Int} (he : e.a ≤ m ∧ e.b ≤ m) (h : ∀ u v, lap E' u v = lap E u v + c * xv e u * xv e v) : D m E' = D m E + c * rs m E e.b e.a := by
  rw [← rs_quad he.2 he.1]
  unfold D
  rw [← dt_rank1]
  refine dt_congr fun i hi j hj => ?_
  rw [src_xv, src_xv]
  exact h _ _
theorem rs_le {m : Nat} {E : List Ed} {a b : Nat} (hE : Inm m E) (hw : ∀ e ∈ E, 0 < e.w) (ha : a ≤ m) (hb : b ≤ m) : rs m E a b ≤ pw E := by
  have hE' : Inm m (⟨b, a, 0, 1⟩ :: E) := fun e he => by
    rcases List.mem_cons.1 he with rfl | he
    · exact ⟨hb, ha⟩
    · exact hE e he
  have h1 := D_more (m := m) (E := E) (E' := ⟨b, a, 0, 1⟩ :: E) (e := ⟨b, a, 0, 1⟩) (c := 1) ⟨hb, ha⟩ (fun u v => by show 1 * _ * _ + _ = _; unfold lap; omega)
  rw [D_ts hE', D_ts hE, ts] at h1
  change ts m pid z0 E (fun _ => 1) + (if b = a then 0 else 1 * ts m (jP pid ⟨b, a, 0, 1⟩) (jo pid z0 ⟨b, a, 0, 1⟩) E (fun _ => 1)) = ts m pid z0 E (fun _ => 1) + 1 * rs m E a b at h1
  have hw0 : ∀ e ∈ E, 0 ≤ e.w := fun e he => by have := hw e he; omega
  have hp := pw_pos hw0
  split at h1
  · omega
  · have := ts_le (m := m) (P := jP pid ⟨b, a, 0, 1⟩) (o := jo pid z0 ⟨b, a, 0, 1⟩) (g := fun _ => 1) hw0 (fun _ => rfl)
    omega
end Go.Proofs.YtpfijnklnljccaaDoor

namespace Go.Proofs.YtpfijnklnljccaaDoor
set_option linter.unusedVariables false
set_option linter.unusedSimpArgs false

theorem es_ix {f : Ed → Int} : ∀ {E : List Ed}, es f E = sm E.length fun k => f (gx E k)
  | [] => rfl
  | e :: E => by
    rw [List.length_cons, sm_front, es, es_ix (E := E)]
    rfl
theorem in_gx {m : Nat} {E : List Ed} {k : Nat} (h : Inm m E) (hk : k < E.length) : (gx E k).a ≤ m ∧ (gx E k).b ≤ m := h _ (gx_mem hk)
/-- What goes out of a place by a flow. -/
def dv (E : List Ed) (f : Nat → Int) (v : Nat) : Int := sm E.length fun k => - (f k * xv (gx E k) v)
theorem dv_parts {m : Nat} {E : List Ed} {f z : Nat → Int} (h : Inm m E) : sm (m + 1) (fun v => z v * dv E f v) = sm E.length fun k => - (f k * dd z (gx E k)) := by
  unfold dv
  have e1 : ∀ v, v < m + 1 → z v * (sm E.length fun k => - (f k * xv (gx E k) v)) = sm E.length fun k => (- f k) * (z v * xv (gx E k) v) := by
    intro v hv; rw [← sm_mul]; refine sm_congr fun k hk => ?_; grind
  rw [sm_congr e1, sm_comm]
  refine sm_congr fun k hk => ?_
  rw [sm_mul, sm_xv (in_gx h hk)]; grind
/-- The flow of the pressures. -/
def air (E : List Ed) (p : Nat → Int) (k : Nat) : Int := (gx E k).w * (p (gx E k).a - p (gx E k).b)
theorem dv_air {E : List Ed} {p : Nat → Int} {v : Nat} : dv E (air E p) v = kc E p v := by
  unfold dv kc; rw [es_ix]
  refine sm_congr fun k hk => ?_
  unfold air dd; grind
theorem sq_nonneg {x : Int} : 0 ≤ x * x := by
  rcases Int.le_total 0 x with g | g
  · exact Int.mul_nonneg g g
  · exact Int.mul_nonneg_of_nonpos_of_nonpos g g
/-- No flow with the same amount loses less: g is a flow, h that of pressures. -/
theorem loss_least {m : Nat} {E : List Ed} {g p : Nat → Int} {K : Int} {r : Nat → Int} (hE : Inm m E) (hr : ∀ k, k < E.length → (gx E k).w * r k = 60) (hp : ∀ k, k < E.length → 0 ≤ r k)
    (h : ∀ v, v ≤ m → dv E g v = K * dv E (air E p) v) : sm E.length (fun k => (K * air E p k) * (K * air E p k) * r k) ≤ sm E.length fun k => g k * g k * r k := by
  have hc : ∀ v, v ≤ m → dv E (fun k => g k - K * air E p k) v = 0 := by
    intro v hv
    have : dv E (fun k => g k - K * air E p k) v = dv E g v + (- K) * dv E (air E p) v := by
      unfold dv; rw [← sm_mul, ← sm_add]; refine sm_congr fun k hk => ?_; grind
    rw [this, h v hv]; grind
  have cross : sm E.length (fun k => K * air E p k * (g k - K * air E p k) * r k) = 0 := by
    have e1 : ∀ k, k < E.length → K * air E p k * (g k - K * air E p k) * r k = (60 * K) * (- ((g k - K * air E p k) * dd p (gx E k))) := by
      intro k hk
      have := hr k hk
      unfold air dd
      generalize (gx E k).w = w at *
      generalize p (gx E k).a = x
      generalize p (gx E k).b = y
      generalize r k = rr at *
      generalize g k = gg
      rw [← this]; grind
    rw [sm_congr e1, sm_mul, ← dv_parts (f := fun k => g k - K * air E p k) hE, sm_zero (fun v hv => by rw [hc v (by omega)]; omega)]; omega
  have e2 : ∀ k, k < E.length → g k * g k * r k = (K * air E p k) * (K * air E p k) * r k + (2 * (K * air E p k * (g k - K * air E p k) * r k) + (g k - K * air E p k) * (g k - K * air E p k) * r k) := by
    intro k hk; grind
  rw [sm_congr (f := fun k => g k * g k * r k) e2, sm_add, sm_add, sm_mul, cross]
  have := sm_nonneg (n := E.length) (f := fun k => (g k - K * air E p k) * (g k - K * air E p k) * r k) (fun k hk => Int.mul_nonneg sq_nonneg (hp k hk))
  omega

end Go.Proofs.YtpfijnklnljccaaDoor

namespace Go.Proofs.YtpfijnklnljccaaDoor
set_option linter.unusedVariables false
set_option linter.unusedSimpArgs false

def rhs (E : List Ed) (v : Nat) : Int := es (fun e => e.w * xv e v * e.d) E
def sz (m : Nat) (P : Pt) (r : Nat) : Int := sm (m + 1) fun v => if P v = r then 1 else 0
theorem D_le {m : Nat} {E : List Ed} (hE : Inm m E) (hw : ∀ e ∈ E, 0 ≤ e.w) : D m E ≤ pw E := by
  rw [D_ts hE]; exact (ts_le hw (fun _ => rfl)).2
theorem pw_le {c : Int} : ∀ {E : List Ed} {n : Nat}, E.length ≤ n → (∀ e ∈ E, 0 ≤ e.w ∧ e.w ≤ c) → 0 ≤ c → pw E ≤ (1 + c) ^ n
  | [], n, _, _, hc => by
    unfold pw
    have : ∀ n : Nat, (1 : Int) ≤ (1 + c) ^ n := by
      intro n; induction n with
      | zero => simp
      | succ n ih =>
        rw [Int.pow_succ]
        have := Int.mul_le_mul ih (show (1 : Int) ≤ 1 + c by omega) (by omega) (by omega)
        omega
    exact this n
  | e :: E, 0, h, _, _ => by simp at h
  | e :: E, n + 1, h, hw, hc => by
    unfold pw
    have h1 := pw_le (E := E) (n := n) (by simpa using h) (fun x hx => hw x (List.mem_cons_of_mem _ hx)) hc
    have h2 := hw e List.mem_cons_self
    have h3 := pw_pos (E := E) (fun x hx => (hw x (List.mem_cons_of_mem _ hx)).1)
    rw [Int.pow_succ, Int.mul_comm ((1 + c) ^ n)]
    exact Int.mul_le_mul (by omega) h1 (by omega) (by omega)
end Go.Proofs.YtpfijnklnljccaaDoor
