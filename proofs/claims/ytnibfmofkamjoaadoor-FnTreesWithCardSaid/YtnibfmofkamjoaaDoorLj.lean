/- Parts that are joined: what the program's lists hold; no condition but the sizes. -/
import Derived.Test.YtnibfmofkamjoaaDoorLv
import Derived.Test.YtnibfmofkamjoaaDoorLa
import Derived.Test.YtnibfmofkamjoaaDoorNa
import Derived.Test.YtnibfmofkamjoaaDoorQbp
namespace Go.Proofs.YtnibfmofkamjoaaDoor
open Go
set_option linter.unusedVariables false
set_option linter.unusedSimpArgs false

/-- The parts of the places below n, as a list. -/
def pl (n : Nat) (P : Pt) : List Int := row1 n fun v => (P v : Int)
theorem pl_len {n : Nat} {P : Pt} : (pl n P).length = n := row1_len
theorem pl_gx {n v : Nat} {P : Pt} (h : v < n) : gx (pl n P) v = (P v : Int) := row1_gx h
def jab (P : Pt) (a b : Nat) : Pt := jP P ⟨a, b, 0, 0⟩
theorem jP_jab {P : Pt} {e : Ed} : jP P e = jab P e.a e.b := rfl
theorem max_pl {n a b : Nat} {P : Pt} (ha : a < n) (hb : b < n) : max (gx (pl n P) a) (gx (pl n P) b) = ((max (P a) (P b) : Nat) : Int) := by rw [pl_gx ha, pl_gx hb]; omega
theorem min_pl {n a b : Nat} {P : Pt} (ha : a < n) (hb : b < n) : min (gx (pl n P) a) (gx (pl n P) b) = ((min (P a) (P b) : Nat) : Int) := by rw [pl_gx ha, pl_gx hb]; omega
theorem l_ownParts {n : Nat} (h : n ≤ 1000) : p_impl_ownParts (n : Int) = some (pl n pid) := by
  unfold p_impl_ownParts
  rw [sized_at (by omega)]
  rw [loop_to (B := p_impl_ownParts_L0 n) (fun k => ((k : Int), mixG (pl n pid) (List.replicate n 0) k)) n (by simp [mixG]) (e := pl n pid) (fun k hk => by
    simp only [p_impl_ownParts_L0]
    rw [decide_eq_true (by omega), idx_at hk, w64_succ (by omega), ← mixG_set (by rw [pl_len]; simp) (by simpa using hk), pl_gx hk]; rfl) (by
    simp only [p_impl_ownParts_L0]
    rw [decide_eq_false (by omega)]
    have := mixG_end (m := pl n pid) (l := List.replicate n (0 : Int)) (by rw [pl_len]; simp)
    rw [List.length_replicate] at this
    rw [this]; rfl)]
  rfl
theorem set_self {α : Type} [Inhabited α] {l : List α} {k : Nat} {v : α} (h : gx l k = v) : l.set k v = l := by
  subst h
  apply List.ext_getElem (by simp)
  intro i h1 h2
  by_cases e : k = i
  · subst e; rw [List.getElem_set_self, gx_eq h2]
  · rw [List.getElem_set_ne e]
/-- One round of a join. -/
theorem join_round {n k a b : Nat} {P : Pt} (hk : k < n) : (if gx (mixG (pl n (jab P a b)) (pl n P) k) k = ((max (P a) (P b) : Nat) : Int) then (mixG (pl n (jab P a b)) (pl n P) k).set k ((min (P a) (P b) : Nat) : Int) else mixG (pl n (jab P a b)) (pl n P) k) = mixG (pl n (jab P a b)) (pl n P) (k + 1) := by
  have hl : (pl n (jab P a b)).length = (pl n P).length := by rw [pl_len, pl_len]
  have hk' : k < (pl n P).length := by rw [pl_len]; exact hk
  rw [mixG_gx hl hk', pl_gx hk, ← mixG_set hl hk', pl_gx hk]
  unfold jab jP hiP loP
  simp only []
  split
  · rename_i h; rw [if_pos (by omega)]
  · rename_i h
    rw [if_neg (by omega)]
    exact (set_self (by rw [mixG_gx (by rw [pl_len, pl_len]) hk', pl_gx hk])).symm
theorem l_joinParts {n a b : Nat} {P : Pt} (ha : a < n) (hb : b < n) (hn : n ≤ 1000) : p_impl_joinParts (pl n P) (a : Int) (b : Int) = some (P a != P b, pl n (jab P a b)) := by
  unfold p_impl_joinParts
  rw [pl_len, idx_at ha, idx_at hb, max_pl ha hb, min_pl ha hb]
  by_cases h : P a = P b
  · have e1 : (((min (P a) (P b) : Nat) : Int) == ((max (P a) (P b) : Nat) : Int)) = true := by rw [h]; simp
    have e2 : (P a != P b) = false := by simpa using h
    have e3 : jab P a b = P := jP_same (e := ⟨a, b, 0, 0⟩) h
    rw [e1, e2, e3]; rfl
  · have e1 : (((min (P a) (P b) : Nat) : Int) == ((max (P a) (P b) : Nat) : Int)) = false := by rw [beq_eq_false_iff_ne]; omega
    have e2 : (P a != P b) = true := by simpa using h
    rw [e1, e2, cond_false]
    rw [loop_to (B := p_impl_joinParts_L0 (pl n P) a b) (fun k => ((k : Int), mixG (pl n (jab P a b)) (pl n P) k)) n (by simp [mixG]) (e := pl n (jab P a b)) (fun k hk => by
      simp only [p_impl_joinParts_L0]
      rw [pl_len, decide_eq_true (by omega), idx_at hk, max_pl ha hb, min_pl ha hb, w64_succ (by omega), ← join_round hk]
      simp only [cond_true]
      split
      · rename_i hh; rw [show (gx (mixG (pl n (jab P a b)) (pl n P) k) k == ((max (P a) (P b) : Nat) : Int)) = true by simpa using hh]; rfl
      · rename_i hh; rw [show (gx (mixG (pl n (jab P a b)) (pl n P) k) k == ((max (P a) (P b) : Nat) : Int)) = false by simpa using hh]; rfl) (by
      simp only [p_impl_joinParts_L0]
      rw [pl_len, decide_eq_false (by omega)]
      have := mixG_end (m := pl n (jab P a b)) (l := pl n P) (by rw [pl_len, pl_len])
      rw [pl_len] at this
      rw [this]; rfl)]
    rfl
/-- How many of the first places have their own number. -/
def own (x : Nat) (P : Pt) : Nat := ((List.range x).filter fun v => P v == v).length
theorem own_succ {x : Nat} {P : Pt} : own (x + 1) P = own x P + (if P x = x then 1 else 0) := by
  unfold own
  rw [List.range_succ, List.filter_append, List.length_append]
  by_cases h : P x = x
  · simp [h]
  · simp [h]
theorem own_le {x : Nat} {P : Pt} : own x P ≤ x := by
  unfold own; have := List.length_filter_le (fun v => P v == v) (List.range x); simpa using this
theorem own_cn {m : Nat} {P : Pt} : own (m + 1) P = cn m P := rfl
theorem l_countParts {n : Nat} {P : Pt} (hn : n ≤ 1000) : p_impl_countParts (pl n P) = some (own n P : Int) := by
  unfold p_impl_countParts
  rw [loop_to (B := p_impl_countParts_L0 (pl n P)) (fun k => ((own k P : Int), (k : Int))) n (by simp [own]) (e := (own n P : Int)) (fun k hk => by
    simp only [p_impl_countParts_L0]
    have := own_le (x := k) (P := P)
    rw [pl_len, decide_eq_true (by omega), idx_at hk, pl_gx hk, w64_succ (k := k) (by omega), w64_succ (k := own k P) (by omega), own_succ]
    simp only [cond_true]
    by_cases h : P k = k
    · rw [show (((P k : Nat) : Int) == (k : Int)) = true by rw [beq_iff_eq]; omega, if_pos h]; rfl
    · rw [show (((P k : Nat) : Int) == (k : Int)) = false by simp; omega, if_neg h]; rfl) (by
    simp only [p_impl_countParts_L0]
    rw [pl_len, decide_eq_false (by omega)]; rfl)]
  rfl
theorem fj_take {P : Pt} {E : List Ed} {k : Nat} (h : k < E.length) : fj P (E.take (k + 1)) = jP (fj P (E.take k)) (gx E k) := by
  unfold fj; rw [take_gx h, List.foldl_append]; rfl
/-- Joins look at the ends alone. -/
theorem fj_ab : ∀ {E F : List Ed} {P : Pt}, E.map (fun e => (e.a, e.b)) = F.map (fun e => (e.a, e.b)) → fj P E = fj P F
  | [], [], _, _ => rfl
  | [], _ :: _, _, h => by cases h
  | _ :: _, [], _, h => by cases h
  | e :: E, f :: F, P, h => by
    simp only [List.map_cons, List.cons.injEq, Prod.mk.injEq] at h
    show fj (jP P e) E = fj (jP P f) F
    have : jP P e = jP P f := by rw [jP_jab, jP_jab, h.1.1, h.1.2]
    rw [this]; exact fj_ab h.2
theorem jok_ab : ∀ {E F : List Ed} {P : Pt}, E.map (fun e => (e.a, e.b)) = F.map (fun e => (e.a, e.b)) → jok P E = jok P F
  | [], [], _, _ => rfl
  | [], _ :: _, _, h => by cases h
  | _ :: _, [], _, h => by cases h
  | e :: E, f :: F, P, h => by
    simp only [List.map_cons, List.cons.injEq, Prod.mk.injEq] at h
    unfold jok
    have : jP P e = jP P f := by rw [jP_jab, jP_jab, h.1.1, h.1.2]
    rw [this, h.1.1, h.1.2, jok_ab h.2]
theorem own_one {n : Nat} {P : Pt} (g : Good P) (hn : 1 ≤ n) : ((own n P : Int) == 1) = one (n - 1) P := by
  obtain ⟨m, rfl⟩ : ∃ m, n = m + 1 := ⟨n - 1, by omega⟩
  rw [own_cn, show m + 1 - 1 = m by omega]
  by_cases h : one m P = true
  · rw [h, (cn_one g).2 h]; rfl
  · have : cn m P ≠ 1 := fun hh => h ((cn_one g).1 hh)
    rw [show one m P = false by simpa using h, beq_eq_false_iff_ne]; omega
end Go.Proofs.YtnibfmofkamjoaaDoor
