/- The places that a tree tells; sets of legs by their bits; no condition but the sizes. -/
import Derived.Test.YtnibfmofkamjoaaDoorZLp
import Derived.Test.YtnibfmofkamjoaaDoorZLq
namespace Go.Proofs.YtnibfmofkamjoaaDoor
open Go
set_option linter.unusedVariables false
set_option linter.unusedSimpArgs false

theorem bits_of : ∀ (n : Nat) (p : Nat → Bool), ∃ t, t < 2 ^ n ∧ ∀ k, k < n → has t k = p k
  | 0, p => ⟨0, by simp, fun k h => by omega⟩
  | n + 1, p => by
    obtain ⟨t, h1, h2⟩ := bits_of n (fun k => p (k + 1))
    refine ⟨(if p 0 then 1 else 0) + 2 * t, ?_, fun k hk => ?_⟩
    · rw [Nat.pow_succ]; split <;> omega
    · cases k with
      | zero =>
        rw [has_zero]
        cases p 0
        · simp
        · simp only [if_true]
          rw [show (1 + 2 * t) % 2 = 1 by omega]; rfl
      | succ k =>
        rw [has_succ, ← h2 k (by omega)]
        congr 1; split <;> omega
theorem asc_ext : ∀ {l m : List Int}, l.Pairwise (· < ·) → m.Pairwise (· < ·) → (∀ x, x ∈ l ↔ x ∈ m) → l = m
  | [], [], _, _, _ => rfl
  | [], y :: m, _, _, h => absurd ((h y).2 (by simp)) (by simp)
  | x :: l, [], _, _, h => absurd ((h x).1 (by simp)) (by simp)
  | x :: l, y :: m, hl, hm, h => by
    rw [List.pairwise_cons] at hl hm
    have e : x = y := by
      have h1 := (h x).1 (by simp)
      have h2 := (h y).2 (by simp)
      rcases List.mem_cons.1 h1 with h1 | h1
      · exact h1
      rcases List.mem_cons.1 h2 with h2 | h2
      · exact h2.symm
      · have := hl.1 y h2; have := hm.1 x h1; omega
    subst e
    rw [asc_ext hl.2 hm.2 (fun z => ?_)]
    constructor
    · intro hz
      have := hl.1 z hz
      rcases List.mem_cons.1 ((h z).1 (List.mem_cons_of_mem _ hz)) with e | e
      · omega
      · exact e
    · intro hz
      have := hm.1 z hz
      rcases List.mem_cons.1 ((h z).2 (List.mem_cons_of_mem _ hz)) with e | e
      · omega
      · exact e
theorem asc_pw {l : List Int} (h : ∀ k, k + 1 < l.length → gx l k < gx l (k + 1)) : l.Pairwise (· < ·) := by
  have key : ∀ d i, i + d + 1 < l.length → gx l i < gx l (i + d + 1) := by
    intro d
    induction d with
    | zero => intro i hi; exact h i hi
    | succ d ih =>
      intro i hi
      have h1 := ih i (by omega)
      have h2 := h (i + d + 1) (by omega)
      rw [show i + (d + 1) + 1 = i + d + 1 + 1 by omega]; omega
  rw [List.pairwise_iff_getElem]
  intro i j hi hj hij
  have := key (j - i - 1) i (by omega)
  rw [show i + (j - i - 1) + 1 = j by omega, gx_eq hi, gx_eq hj] at this
  exact this
theorem ixI_pw {n t : Nat} : (ixI n t).Pairwise (· < ·) := by
  unfold ixI ix
  rw [List.pairwise_map]
  exact (List.pairwise_lt_range.filter _).imp fun h => by omega
theorem ixI_in {n t : Nat} {x : Int} : x ∈ ixI n t ↔ ∃ k : Nat, x = (k : Int) ∧ k < n ∧ has t k = true := by
  unfold ixI ix
  rw [List.mem_map]
  constructor
  · rintro ⟨k, hk, rfl⟩
    rw [List.mem_filter, List.mem_range] at hk
    exact ⟨k, rfl, hk.1, hk.2⟩
  · rintro ⟨k, rfl, h1, h2⟩
    exact ⟨k, by rw [List.mem_filter, List.mem_range]; exact ⟨h1, h2⟩, rfl⟩
/-- A list that is accepted as a tree is that of a set. -/
theorem tree_set {s : Survey} {tree : List Int} (ok : SurveyOk s) (h : isTreeB s tree = true) : ∃ t, t < 2 ^ s.legs.length ∧ tset s t = true ∧ tree = ixI s.legs.length t := by
  have h0 := h
  unfold isTreeB at h
  rw [Bool.and_eq_true, List.all_eq_true] at h
  obtain ⟨-, h2⟩ := h
  have h3 : ∀ x, x < tree.length → (0 ≤ gx tree x ∧ gx tree x < s.legs.length) ∧ (x = 0 ∨ gx tree (x - 1) < gx tree x) := fun x hx => by
    have := h2 x (List.mem_range.2 hx)
    unfold tq at this
    simp only [Bool.and_eq_true, Bool.or_eq_true, decide_eq_true_eq] at this
    exact ⟨this.1, this.2.1⟩
  obtain ⟨t, ht, hb⟩ := bits_of s.legs.length (fun k => decide ((k : Int) ∈ tree))
  have e : tree = ixI s.legs.length t := by
    refine asc_ext (asc_pw fun k hk => ?_) ixI_pw fun x => ?_
    · rcases (h3 (k + 1) hk).2 with e | e
      · omega
      · exact e
    · rw [ixI_in]
      constructor
      · intro hx
        obtain ⟨k, hk, rfl⟩ := mem_gx hx
        obtain ⟨a, b⟩ := (h3 k hk).1
        obtain ⟨j, hj⟩ := Int.eq_ofNat_of_zero_le a
        refine ⟨j, hj, by omega, ?_⟩
        rw [hb j (by omega), decide_eq_true_eq, ← hj]; exact gx_mem hk
      · rintro ⟨k, rfl, h1, h4⟩
        rw [hb k h1, decide_eq_true_eq] at h4; exact h4
  refine ⟨t, ht, ?_, e⟩
  rw [e, tree_ix ok] at h0
  exact h0
theorem tree_mem {s : Survey} {tree : List Int} (ok : SurveyOk s) : isTreeB s tree = true ↔ tree ∈ TA s := by
  unfold TA
  rw [if_pos (surveyOk_iff.2 ok)]
  unfold tsets
  rw [List.mem_map]
  constructor
  · intro h
    obtain ⟨t, h1, h2, h3⟩ := tree_set ok h
    exact ⟨t, by rw [List.mem_filter, List.mem_range]; exact ⟨h1, h2⟩, h3.symm⟩
  · rintro ⟨t, h, rfl⟩
    rw [List.mem_filter, List.mem_range] at h
    rw [tree_ix ok]; exact h.2

def sub (s : Survey) (t : Nat) : Survey := ⟨s.st, pk s.legs t⟩
end Go.Proofs.YtnibfmofkamjoaaDoor
