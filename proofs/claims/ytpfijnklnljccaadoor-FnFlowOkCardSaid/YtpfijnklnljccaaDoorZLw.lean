/- Determinants: both programs compute the same; no condition but the sizes. -/
import Derived.Test.YtpfijnklnljccaaDoorZLc
import Derived.Test.YtpfijnklnljccaaDoorZLa
import Derived.Test.YtpfijnklnljccaaDoorZNa
import Derived.Test.YtpfijnklnljccaaDoorZQ
namespace Go.Proofs.YtpfijnklnljccaaDoor
open Go
set_option linter.unusedVariables false
set_option linter.unusedSimpArgs false

def fm (m : List (List Int)) : Mx := fun i j => gx (gx m i) j
def rowOk (l : List Int) : Bool := (List.range l.length).all fun j => decide (-999 ≤ gx l j) && decide (gx l j ≤ 999)
def matOk (m : List (List Int)) : Bool := decide (m.length ≤ 5) && (List.range m.length).all fun k => decide ((gx m k).length = m.length) && rowOk (gx m k)
structure MatOk (m : List (List Int)) : Prop where
  n5 : m.length ≤ 5
  sq : ∀ k, k < m.length → (gx m k).length = m.length
  en : ∀ k, k < m.length → ∀ j, j < m.length → -999 ≤ gx (gx m k) j ∧ gx (gx m k) j ≤ 999
theorem matOk_iff {m : List (List Int)} : matOk m = true ↔ MatOk m := by
  simp only [matOk, rowOk, Bool.and_eq_true, decide_eq_true_eq, List.all_eq_true, List.mem_range]
  constructor
  · rintro ⟨h1, h2⟩
    exact ⟨h1, fun k hk => (h2 k hk).1, fun k hk j hj => (h2 k hk).2 j (by rw [(h2 k hk).1]; exact hj)⟩
  · rintro ⟨h1, h2, h3⟩
    exact ⟨h1, fun k hk => ⟨h2 k hk, fun j hj => h3 k hk j (by rw [h2 k hk] at hj; exact hj)⟩⟩
theorem tab_fm {m : List (List Int)} {n : Nat} (h : m.length = n) (hr : ∀ k, k < n → (gx m k).length = n) : m = tab n (fm m) := by
  apply gx_ext (by rw [tab_len, h])
  intro k hk
  rw [h] at hk
  rw [tab_gx hk]
  apply gx_ext (by rw [row1_len, hr k hk])
  intro j hj
  rw [hr k hk] at hj
  rw [row1_gx hj]; rfl
theorem fm_tab {n i j : Nat} {g : Nat → Nat → Int} (hi : i < n) (hj : j < n) : fm (tab n g) i j = g i j := by unfold fm; rw [tab_gx hi, row1_gx hj]
theorem l_entriesFit {l : List Int} (h : l.length ≤ 4611686018427387904) : p_impl_entriesFit l = some (rowOk l) := by
  unfold p_impl_entriesFit rowOk
  rw [loop_all (fun k => decide (-999 ≤ gx l k) && decide (gx l k ≤ 999)) l.length false (fun k hk => by
    simp only [p_impl_entriesFit_L0]
    rw [decide_eq_true (by omega), idx_at hk, w64_succ (by omega), l_isWithin (by omega)]
    cases decide (-999 ≤ gx l k) <;> cases decide (gx l k ≤ 999) <;> rfl) (by simp only [p_impl_entriesFit_L0]; rw [decide_eq_false (by omega)]; rfl)]
  cases (List.range l.length).all (fun k => decide (-999 ≤ gx l k) && decide (gx l k ≤ 999)) <;> rfl
theorem l_implMatrixValid {m : List (List Int)} (h : m.length ≤ 4611686018427387904) (hr : ∀ k, k < m.length → (gx m k).length ≤ 4611686018427387904) : p_impl_MatrixValid m = some (matOk m) := by
  unfold p_impl_MatrixValid matOk
  rw [loop_all (fun k => decide ((gx m k).length = m.length) && rowOk (gx m k)) m.length false (fun k hk => by
    simp only [p_impl_MatrixValid_L0]
    rw [decide_eq_true (by omega), idx_at hk, w64_succ (by omega), l_entriesFit (hr k hk), bne_dec]
    have : decide ((((gx m k).length : Nat) : Int) = ((m.length : Nat) : Int)) = decide ((gx m k).length = m.length) := by rw [decide_eq_decide]; omega
    rw [this]
    cases decide ((gx m k).length = m.length) <;> cases rowOk (gx m k) <;> rfl) (by simp only [p_impl_MatrixValid_L0]; rw [decide_eq_false (by omega)]; rfl)]
  have e3 : decide (5 < ((m.length : Nat) : Int)) = !decide (m.length ≤ 5) := not_dec (by omega)
  rw [e3]
  cases decide (m.length ≤ 5) <;> cases (List.range m.length).all (fun k => decide ((gx m k).length = m.length) && rowOk (gx m k)) <;> rfl
def bd : Nat → Nat
  | 0 => 1
  | n + 1 => (n + 1) * (999 * bd n)
theorem sm_natAbs {n B : Nat} {f : Nat → Int} (h : ∀ k, k < n → (f k).natAbs ≤ B) : (sm n f).natAbs ≤ n * B := by
  induction n with
  | zero => simp [sm]
  | succ n ih =>
    unfold sm
    have h1 := ih (fun k hk => h k (by omega))
    have h2 := h n (by omega)
    have h3 := Int.natAbs_add_le (sm n f) (f n)
    rw [Nat.add_mul]; omega
theorem sg_abs : ∀ n, (sg n).natAbs = 1
  | 0 => rfl
  | n + 1 => by unfold sg; rw [Int.natAbs_neg]; exact sg_abs n
theorem term_bd {k : Nat} {x d : Int} {B : Nat} (hx : x.natAbs ≤ 999) (hd : d.natAbs ≤ B) : (sg k * x * d).natAbs ≤ 999 * B := by
  rw [Int.natAbs_mul, Int.natAbs_mul, sg_abs, Nat.one_mul]; exact Nat.mul_le_mul hx hd
theorem dt_bd : ∀ {n : Nat} {M : Mx}, (∀ i, i < n → ∀ j, j < n → (M i j).natAbs ≤ 999) → (dt n M).natAbs ≤ bd n
  | 0, M, _ => by simp [dt, bd]
  | n + 1, M, h => by
    unfold dt bd
    refine sm_natAbs fun k hk => term_bd (h 0 (by omega) k hk) (dt_bd fun i hi j hj => h (i + 1) (by omega) _ (sk_lt hj))
theorem bd_4 {n : Nat} (h : n ≤ 4) : 999 * bd n ≤ 23880239760119976 := by
  rcases (show n = 0 ∨ n = 1 ∨ n = 2 ∨ n = 3 ∨ n = 4 by omega) with rfl | rfl | rfl | rfl | rfl <;> decide
/-- One step of the sum. -/
theorem step_w {s x d : Int} {k c B : Nat} (hc : c ≤ 4) (hB : 999 * B ≤ 23880239760119976) (hs : s.natAbs ≤ c * (999 * B)) (hx : x.natAbs ≤ 999) (hd : d.natAbs ≤ B) :
    w64 (s + w64 (w64 (sg k * x) * d)) = s + sg k * x * d := by
  have h1 : (sg k * x).natAbs ≤ 999 := by rw [Int.natAbs_mul, sg_abs, Nat.one_mul]; exact hx
  have h2 := term_bd (k := k) hx hd
  have h3 : s.natAbs ≤ 4 * (999 * B) := Nat.le_trans hs (Nat.mul_le_mul_right _ hc)
  rw [w64_in (x := sg k * x) (by omega) (by omega), w64_in (x := sg k * x * d) (by omega) (by omega), w64_in (by omega) (by omega)]
theorem sg_w {k : Nat} : w64 (- sg k) = sg (k + 1) := by
  have := sg_abs k
  rw [w64_in (by omega) (by omega)]; rfl

def det (m : List (List Int)) : Int := if matOk m then dt m.length (fm m) else 0
theorem en_abs {m : List (List Int)} (h : MatOk m) : ∀ i, i < m.length → ∀ j, j < m.length → (fm m i j).natAbs ≤ 999 := fun i hi j hj => by
  have := h.en i hi j hj
  unfold fm; omega
/-- The columns below n that a set does not have. -/
def cu (n u : Nat) : List Nat := (List.range n).filter fun k => !has u k
theorem has_add {u x k : Nat} (hu : u < 32) (hx : x < 5) (hk : k < 5) (h : has u x = false) : has (u + 2 ^ x) k = (has u k || k == x) := by
  have : ∀ u, u < 32 → ∀ x, x < 5 → ∀ k, k < 5 → has u x = false → has (u + 2 ^ x) k = (has u k || k == x) := by decide +kernel
  exact this u hu x hx k hk h
theorem add_lt {u x : Nat} (hu : u < 32) (hx : x < 5) (h : has u x = false) : u + 2 ^ x < 32 := by
  have : ∀ u, u < 32 → ∀ x, x < 5 → has u x = false → u + 2 ^ x < 32 := by decide +kernel
  exact this u hu x hx h
theorem bit_and {u x : Nat} (hu : u < 32) (hx : x < 5) : (IntKind.i64.wrap (BitVec.ofInt IntKind.i64.bits (Int.fdiv (u : Int) (2 ^ (min (Int.toNat (x : Int)) IntKind.i64.bits))) &&& BitVec.ofInt IntKind.i64.bits 1).toNat == 1) = has u x := by
  have : ∀ u : Nat, u < 32 → ∀ x : Nat, x < 5 → (IntKind.i64.wrap (BitVec.ofInt IntKind.i64.bits (Int.fdiv (u : Int) (2 ^ (min (Int.toNat (x : Int)) IntKind.i64.bits))) &&& BitVec.ofInt IntKind.i64.bits 1).toNat == 1) = has u x := by decide +kernel
  exact this u hu x hx
theorem bit_or {u x : Nat} (hu : u < 32) (hx : x < 5) (h : has u x = false) : IntKind.i64.wrap (BitVec.ofInt IntKind.i64.bits (u : Int) ||| BitVec.ofInt IntKind.i64.bits (w64 (1 * 2 ^ (min (Int.toNat (x : Int)) IntKind.i64.bits)))).toNat = ((u + 2 ^ x : Nat) : Int) := by
  have : ∀ u : Nat, u < 32 → ∀ x : Nat, x < 5 → has u x = false → IntKind.i64.wrap (BitVec.ofInt IntKind.i64.bits (u : Int) ||| BitVec.ofInt IntKind.i64.bits (w64 (1 * 2 ^ (min (Int.toNat (x : Int)) IntKind.i64.bits)))).toNat = ((u + 2 ^ x : Nat) : Int) := by
    unfold w64; decide +kernel
  exact this u hu x hx h
theorem cu_split {n x u : Nat} (hx : x < n) (h : has u x = false) : cu n u = cu x u ++ x :: ((List.range (n - x - 1)).map (· + (x + 1))).filter (fun k => !has u k) := by
  unfold cu
  have e : List.range n = List.range x ++ x :: (List.range (n - x - 1)).map (· + (x + 1)) := by
    apply List.ext_getElem
    · simp; omega
    · intro i h1 h2
      rw [List.getElem_range]
      by_cases hi : i < x
      · rw [List.getElem_append_left (by simpa using hi), List.getElem_range]
      · rw [List.getElem_append_right (by simpa using hi)]
        by_cases hi2 : i = x
        · subst hi2; simp
        · obtain ⟨d, rfl⟩ : ∃ d, i = x + d + 1 := ⟨i - x - 1, by omega⟩
          have : x + d + 1 - (List.range x).length = d + 1 := by simp; omega
          simp only [this, List.getElem_cons_succ, List.getElem_map, List.getElem_range]; omega
  rw [e, List.filter_append, List.filter_cons_of_pos (by rw [h]; rfl)]
theorem cu_add {n x u : Nat} (hn : n ≤ 5) (hu : u < 32) (hx : x < n) (h : has u x = false) : cu n (u + 2 ^ x) = (cu n u).eraseIdx (cu x u).length := by
  rw [cu_split hx h, List.eraseIdx_append_of_length_le (Nat.le_refl _), Nat.sub_self, List.eraseIdx_cons_zero]
  have hs : has (u + 2 ^ x) x = true := by rw [has_add hu (by omega) (by omega) h]; simp
  unfold cu
  have e : List.range n = List.range x ++ x :: (List.range (n - x - 1)).map (· + (x + 1)) := by
    apply List.ext_getElem
    · simp; omega
    · intro i h1 h2
      rw [List.getElem_range]
      by_cases hi : i < x
      · rw [List.getElem_append_left (by simpa using hi), List.getElem_range]
      · rw [List.getElem_append_right (by simpa using hi)]
        by_cases hi2 : i = x
        · subst hi2; simp
        · obtain ⟨d, rfl⟩ : ∃ d, i = x + d + 1 := ⟨i - x - 1, by omega⟩
          have : x + d + 1 - (List.range x).length = d + 1 := by simp; omega
          simp only [this, List.getElem_cons_succ, List.getElem_map, List.getElem_range]; omega
  rw [e, List.filter_append, List.filter_cons_of_neg (by rw [hs]; decide)]
  congr 1
  · refine List.filter_congr fun k hk => ?_
    rw [List.mem_range] at hk
    rw [has_add hu (by omega) (by omega) h]
    have : (k == x) = false := by simp; omega
    rw [this, Bool.or_false]
  · refine List.filter_congr fun k hk => ?_
    rw [List.mem_map] at hk
    obtain ⟨d, hd, rfl⟩ := hk
    rw [List.mem_range] at hd
    rw [has_add hu (by omega) (by omega) h]
    have : (d + (x + 1) == x) = false := by simp; omega
    rw [this, Bool.or_false]
theorem gx_erase {l : List Nat} {c j : Nat} : gx (l.eraseIdx c) j = gx l (sk c j) := by
  unfold gx sk
  rw [List.getD_eq_getElem?_getD, List.getElem?_eraseIdx]
  split <;> simp
theorem cu_succ {x u : Nat} : cu (x + 1) u = cu x u ++ (if has u x then [] else [x]) := by
  unfold cu
  rw [List.range_succ, List.filter_append]
  congr 1
  cases h : has u x <;> simp [h]
theorem cu_zero {n : Nat} : cu n 0 = List.range n := by
  unfold cu; rw [List.filter_eq_self.2]; intro k hk; simp [has]
theorem cu_mem {n u k : Nat} (hk : k < (cu n u).length) : gx (cu n u) k < n := by
  have := gx_mem hk
  unfold cu at this
  rw [List.mem_filter, List.mem_range] at this
  exact this.1
theorem l_detFrom : ∀ {r fuel n u row : Nat} {g : Nat → Nat → Int}, n ≤ 5 → u < 32 → r < fuel → row + r = n → (cu n u).length = r → (∀ i, i < n → ∀ j, j < n → (g i j).natAbs ≤ 999) →
    p_impl_detFrom fuel (tab n g) (row : Int) (u : Int) = some (dt r fun i j => g (row + i) (gx (cu n u) j))
  | 0, fuel + 1, n, u, row, g, _, _, _, hr, _, _ => by
    unfold p_impl_detFrom
    have : (((row : Nat) : Int) == ((tab n g).length : Int)) = true := by rw [tab_len]; simp; omega
    simp only [this, cond_true, dt]
  | r + 1, fuel + 1, n, u, row, g, hn, hu, hf, hr, hc, hg => by
    unfold p_impl_detFrom
    have : (((row : Nat) : Int) == (n : Int)) = false := by simp; omega
    simp only [tab_len, this, cond_false]
    rw [idx_at (by omega)]
    have hB := bd_4 (n := r) (by omega)
    let D : Nat → Int := fun k => dt r fun i j => g (row + 1 + i) (gx (cu n u) (sk k j))
    have tb : ∀ k, k < r + 1 → (D k).natAbs ≤ bd r := fun k hk => dt_bd fun i hi j hj => hg _ (by omega) _ (cu_mem (by rw [hc]; exact sk_lt hj))
    have te : ∀ k, k < r + 1 → (g row (gx (cu n u) k)).natAbs ≤ 999 := fun k hk => hg _ (by omega) _ (cu_mem (by omega))
    have hle : ∀ x, x ≤ n → (cu x u).length ≤ r + 1 := by
      intro x hx
      have : ∀ d, (cu x u).length ≤ (cu (x + d) u).length := by
        intro d; induction d with
        | zero => exact Nat.le_refl _
        | succ d ih => rw [← Nat.add_assoc, cu_succ, List.length_append]; omega
      have := this (n - x)
      rw [show x + (n - x) = n by omega, hc] at this
      exact this
    rw [loop_to (B := p_impl_detFrom_L0 (tab n g) (row : Int) (u : Int) (p_impl_detFrom fuel) row) (fun x => (sm (cu x u).length fun k => sg k * g row (gx (cu n u) k) * D k, sg (cu x u).length, (x : Int))) n (by simp [cu, sm, sg]) (e := dt (r + 1) fun i j => g (row + i) (gx (cu n u) j)) (fun x hx => by
      simp only [p_impl_detFrom_L0]
      have hrow : gx (tab n g) row = row1 n (g row) := tab_gx (by omega)
      rw [hrow, row1_len, decide_eq_true (by omega), idx_at hx, need_of (by omega), need_of (by omega), bit_and hu (by omega), row1_gx hx, w64_succ (by omega), sg_w]
      simp only [cond_true]
      cases hh : has u x with
      | true =>
        have e1 : cu (x + 1) u = cu x u := by rw [cu_succ, hh]; simp
        rw [e1]; rfl
      | false =>
        have e1 : cu (x + 1) u = cu x u ++ [x] := by rw [cu_succ, hh]; simp
        have e2 : (cu (x + 1) u).length = (cu x u).length + 1 := by rw [e1]; simp
        have e3 : gx (cu n u) (cu x u).length = x := by
          rw [cu_split hx hh, gx_app3 (Nat.le_refl _), Nat.sub_self]; rfl
        have hlt : (cu x u).length < r + 1 := by
          have := hle (x + 1) (by omega); omega
        simp only [cond_false]
        rw [e2]
        by_cases h0 : g row x = 0
        · rw [show (g row x != 0) = false by simpa using h0]
          simp only [cond_false, sm, e3, h0]
          rw [Int.mul_zero, Int.zero_mul, Int.add_zero]
        · rw [show (g row x != 0) = true by simpa using h0, cond_true, bit_or hu (by omega) hh, w64_succ (by omega)]
          have hc2 : (cu n (u + 2 ^ x)).length = r := by
            rw [cu_add hn hu hx hh, List.length_eraseIdx, if_pos (by omega), hc]; omega
          have hrec := l_detFrom (r := r) (fuel := fuel) (n := n) (u := u + 2 ^ x) (row := row + 1) (g := g) hn (add_lt hu (by omega) hh) (by omega) (by omega) hc2 hg
          have hD : (dt r fun i j => g (row + 1 + i) (gx (cu n (u + 2 ^ x)) j)) = D (cu x u).length := by
            refine dt_congr fun i hi j hj => ?_
            rw [cu_add hn hu hx hh, gx_erase]
          rw [hD] at hrec
          rw [hrec, Option.bind_some]
          have hte := te _ hlt
          rw [e3] at hte
          rw [step_w (c := (cu x u).length) (B := bd r) (by omega) hB (sm_natAbs fun q hq => term_bd (te q (by omega)) (tb q (by omega))) hte (tb _ hlt)]
          simp only [sm, e3]) (by
      simp only [p_impl_detFrom_L0]
      have hrow : gx (tab n g) row = row1 n (g row) := tab_gx (by omega)
      rw [hrow, row1_len, decide_eq_false (by omega), hc]
      simp only [cond_false]
      congr 2
      rw [dt]
      refine sm_congr fun k hk => ?_
      simp only [Nat.add_zero]
      congr 1
      refine dt_congr fun i hi j hj => ?_
      congr 1; omega)]
    rfl
theorem l_implDet {m : List (List Int)} (h : m.length ≤ 4611686018427387904) (hr : ∀ k, k < m.length → (gx m k).length ≤ 4611686018427387904) : p_impl_Det m = some (det m) := by
  unfold p_impl_Det det
  rw [l_implMatrixValid h hr]
  simp only [Option.bind_some]
  cases hv : matOk m with
  | false => rfl
  | true =>
    have ok := matOk_iff.1 hv
    have e := tab_fm rfl ok.sq
    have n5 := ok.n5
    have := l_detFrom (r := m.length) (fuel := 64) (n := m.length) (u := 0) (row := 0) (g := fm m) n5 (by omega) (by omega) (by omega) (by rw [cu_zero]; simp) (en_abs ok)
    rw [← e] at this
    simp only [Bool.not_true, cond_false, if_true]
    have z : (0 : Int) = ((0 : Nat) : Int) := rfl
    rw [z, this]
    simp only [Option.bind_some]
    congr 1
    refine dt_congr fun i hi j hj => ?_
    rw [cu_zero, gx_range hj]; congr 1; omega
theorem det_tab {n : Nat} {g : Nat → Nat → Int} (hn : n ≤ 5) (hg : ∀ i, i < n → ∀ j, j < n → -999 ≤ g i j ∧ g i j ≤ 999) : det (tab n g) = dt n g := by
  unfold det
  have ok : MatOk (tab n g) := ⟨by rw [tab_len]; exact hn, fun k hk => by rw [tab_len] at hk; rw [tab_gx hk, row1_len, tab_len], fun k hk j hj => by
    rw [tab_len] at hk hj
    rw [tab_gx hk, row1_gx hj]; exact hg k hk j hj⟩
  rw [if_pos (matOk_iff.2 ok), tab_len]
  exact dt_congr fun i hi j hj => fm_tab hi hj
end Go.Proofs.YtpfijnklnljccaaDoor
