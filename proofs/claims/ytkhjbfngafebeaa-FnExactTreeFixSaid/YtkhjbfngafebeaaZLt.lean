/- The places that a tree tells, and the sum over all trees, by both programs; no condition but the sizes. -/
import Derived.Test.YtkhjbfngafebeaaZL7
import Derived.Test.YtkhjbfngafebeaaZL5
import Derived.Test.YtkhjbfngafebeaaZLk
import Derived.Test.YtkhjbfngafebeaaZLq
import Derived.Test.YtkhjbfngafebeaaZLc
import Derived.Test.YtkhjbfngafebeaaZLw
import Derived.Test.YtkhjbfngafebeaaZQ
import Derived.Test.YtkhjbfngafebeaaZLp
namespace Go.Proofs.Ytkhjbfngafebeaa
open Go
set_option linter.unusedVariables false
set_option linter.unusedSimpArgs false

theorem tree_legs {s : Survey} {t : Nat} : pk s.legs t = (ixI s.legs.length t).map fun i => gx s.legs i.toNat := by
  rw [pk_gx]; unfold ixI
  rw [List.map_map]
  apply List.map_congr_left
  intro a _; simp
theorem tree_leg {s : Survey} {t k : Nat} (hk : k < (ixI s.legs.length t).length) : ∃ j : Nat, gx (ixI s.legs.length t) k = (j : Int) ∧ j < s.legs.length ∧ gx (pk s.legs t) k = gx s.legs j := by
  obtain ⟨j, h1, h2, h3⟩ := ixI_mem hk
  refine ⟨j, h1, h2, ?_⟩
  rw [tree_legs, gx_of_map hk, h1]; rfl
theorem pk_ixl {s : Survey} {t : Nat} : (pk s.legs t).length = (ixI s.legs.length t).length := by rw [tree_legs, List.length_map]
theorem tfix_no {s : Survey} {tree : List Int} (h : (surveyOk s && isTreeB s tree) = false) : tfix s tree = (⟨0, []⟩, false) := by unfold tfix; rw [h]; rfl
theorem l_implTreeFix {s : Survey} {tree : List Int} (h : s.legs.length ≤ 4611686018427387904) (ht : tree.length ≤ 4611686018427387904) : p_impl_TreeFix s tree = some (tfix s tree) := by
  unfold p_impl_TreeFix
  rw [show (⟨s.st, s.legs⟩ : Survey) = s from rfl, l_implSurveyValid h]
  cases hv : surveyOk s with
  | false => rw [tfix_no (by rw [hv]; rfl)]; rfl
  | true =>
    have ok := surveyOk_iff.1 hv
    have p1 := ok.p1; have p6 := ok.p6; have n9 := ok.n9
    rw [l_isTree ok ht]
    cases hb : isTreeB s tree with
    | false => rw [tfix_no (by rw [hb, hv]; rfl)]; rfl
    | true =>
      have et : tfix s tree = (⟨1, tfW s tree⟩, true) := by unfold tfix; rw [hb, hv]; rfl
      rw [et]
      obtain ⟨t, ht2, hts, rfl⟩ := tree_set ok hb
      have hl := tree_len ok hts
      have hp := pk_ixl (s := s) (t := t)
      have h5 : mS s ≤ 5 := by unfold mS; omega
      simp only [Option.bind_some, Bool.not_true, cond_false]
      rw [loop_to (B := p_impl_TreeFix_L0 s (ixI s.legs.length t)) (fun k => ((k : Int), (pk s.legs t).take k)) (ixI s.legs.length t).length (by rfl) (e := pk s.legs t) (fun k hk => by
        simp only [p_impl_TreeFix_L0]
        obtain ⟨j, e1, e2, e3⟩ := tree_leg hk
        rw [decide_eq_true (by omega), idx_at hk, e1, idx_at e2, w64_succ (by omega), take_gx (by omega), e3, need_of (by simp only [List.length_take, List.length_cons, List.length_nil]; omega)]; rfl) (by
        simp only [p_impl_TreeFix_L0]
        rw [decide_eq_false (by omega), ← hp, List.take_length]; rfl)]
      simp only [Option.bind_some]
      have hn : s.st = ((mS s + 1 : Nat) : Int) := by unfold mS; omega
      have hw := tfW_len (s := s) (tree := ixI s.legs.length t)
      rw [hn, sized_at (by omega)]
      rw [loop_to (B := p_impl_TreeFix_L1 s (pk s.legs t) (mS s + 1)) (fun k => ((k : Int), fillG (tfW s (ixI s.legs.length t)) ⟨0, 0, 0⟩ k)) (mS s + 1) (by
        rw [← fillG_zero, hw]; rfl) (e := tfW s (ixI s.legs.length t)) (fun k hk => by
        simp only [p_impl_TreeFix_L1]
        have ok2 : SurveyOk (sub s t) := chosen_ok ok
        rw [decide_eq_true (by omega), show (⟨s.st, pk s.legs t⟩ : Survey) = sub s t from rfl, l_implTreePlace (by have := ok2.n9; omega), sub_place ok hts (by omega), w64_succ (by omega)]
        simp only [cond_true, Option.bind_some]
        rw [idx_at hk, ← fillG_set (l := tfW s (ixI s.legs.length t)) (by omega)]) (by
        simp only [p_impl_TreeFix_L1]
        rw [decide_eq_false (by omega), ← hw, fillG_end]; rfl)]
      rfl
theorem l_sameTree {all : List (List Int)} {tree : List Int} {k : Nat} (hk : k < all.length) (ht : tree.length ≤ 4611686018427387904) :
    loop (p_spec_TreeFix_L1 tree all (k : Int)) ((((gx all k).length : Nat) : Int) == ((tree.length : Nat) : Int), 0) = some (decide (gx all k = tree)) := by
  refine Tot.get (Tot.loop (fun z => ∃ j : Nat, z.2 = (j : Int) ∧ j ≤ tree.length ∧ (z.1 = true → (gx all k).length = tree.length ∧ ∀ i, i < j → gx (gx all k) i = gx tree i) ∧ (z.1 = false → gx all k ≠ tree)) (fun z => tree.length - z.2.toNat) (fun ⟨b, j⟩ hz => ?_) ⟨0, rfl, Nat.zero_le _, fun h => ⟨by have := beq_iff_eq.1 h; omega, fun i hi => by omega⟩, fun h e => by rw [e] at h; simp at h⟩)
  obtain ⟨j, hj0, hj, h1, h2⟩ := hz
  simp only at hj0 h1 h2
  subst hj0
  simp only [p_spec_TreeFix_L1]
  cases b with
  | false =>
    have e : (cond (decide ((j : Int) < ((tree.length : Nat) : Int))) (some false) (some false) : O Bool) = some false := by cases decide ((j : Int) < ((tree.length : Nat) : Int)) <;> rfl
    rw [e]
    exact Tot.ret (decide_eq_false (h2 rfl)).symm
  | true =>
    obtain ⟨h3, h4⟩ := h1 rfl
    by_cases c : j < tree.length
    · rw [decide_eq_true (show (j : Int) < ((tree.length : Nat) : Int) by omega)]
      simp only [cond_true, Option.bind_some]
      rw [idx_at hk, idx_at (by omega), idx_at c, w64_succ (by omega)]
      refine Tot.ret ⟨⟨j + 1, rfl, by omega, fun h => ⟨h3, fun i hi => ?_⟩, fun h e => ?_⟩, by simp only [Int.toNat_natCast]; omega⟩
      · by_cases c2 : i = j
        · subst c2; exact beq_iff_eq.1 h
        · exact h4 i (by omega)
      · rw [e] at h; simp at h
    · rw [decide_eq_false (show ¬ (j : Int) < ((tree.length : Nat) : Int) by omega)]
      exact Tot.ret (decide_eq_true (gx_ext h3 fun i hi => h4 i (by omega))).symm
theorem TA_len {s : Survey} : (TA s).length ≤ 512 := by
  unfold TA
  cases hv : surveyOk s with
  | false => simp
  | true =>
    rw [if_pos rfl, List.length_map]
    have := filter_len (p := tset s) (x := 2 ^ s.legs.length)
    have := (two_pow (surveyOk_iff.1 hv).n9).2
    unfold tsets; omega
theorem any_mem {l : List (List Int)} {x : List Int} : (List.range l.length).any (fun i => decide (gx l i = x)) = decide (x ∈ l) := by
  rw [Bool.eq_iff_iff, decide_eq_true_eq, List.any_eq_true]
  constructor
  · rintro ⟨i, hi, h⟩
    rw [← of_decide_eq_true h]; exact gx_mem (List.mem_range.1 hi)
  · intro h
    obtain ⟨i, hi, e⟩ := mem_gx h
    exact ⟨i, List.mem_range.2 hi, decide_eq_true e⟩
theorem l_specTreeFix {s : Survey} {tree : List Int} (h : s.legs.length ≤ 4611686018427387904) (ht : tree.length ≤ 4611686018427387904) : p_spec_TreeFix s tree = some (tfix s tree) := by
  unfold p_spec_TreeFix
  rw [show (⟨s.st, s.legs⟩ : Survey) = s from rfl, l_specTreesAll h]
  have hT := TA_len (s := s)
  simp only [Option.bind_some]
  rw [loop_to (B := p_spec_TreeFix_L0 tree (TA s)) (fun k => ((List.range k).any (fun i => decide (gx (TA s) i = tree)), (k : Int))) (TA s).length (by rfl) (e := decide (tree ∈ TA s)) (fun k hk => by
    simp only [p_spec_TreeFix_L0]
    rw [decide_eq_true (by omega), idx_at hk, l_sameTree hk ht, w64_succ (by omega), List.range_succ, List.any_append]
    simp only [cond_true, Option.bind_some, List.any_cons, List.any_nil, Bool.or_false]
    cases (List.range k).any (fun i => decide (gx (TA s) i = tree)) <;> rfl) (by
    simp only [p_spec_TreeFix_L0]
    rw [decide_eq_false (by omega), any_mem]; rfl)]
  simp only [Option.bind_some]
  cases hv : surveyOk s with
  | false =>
    have : TA s = [] := by unfold TA; rw [hv]; rfl
    rw [tfix_no (by rw [hv]; rfl), this]; rfl
  | true =>
    have ok := surveyOk_iff.1 hv
    have p1 := ok.p1; have p6 := ok.p6; have n9 := ok.n9
    have em : decide (tree ∈ TA s) = isTreeB s tree := by
      rw [Bool.eq_iff_iff, decide_eq_true_eq, tree_mem ok]
    rw [em]
    cases hb : isTreeB s tree with
    | false => rw [tfix_no (by rw [hb, hv]; rfl)]; rfl
    | true =>
      have et : tfix s tree = (⟨1, tfW s tree⟩, true) := by unfold tfix; rw [hb, hv]; rfl
      rw [et]
      obtain ⟨t, ht2, hts, rfl⟩ := tree_set ok hb
      have hl := tree_len ok hts
      have hp := pk_ixl (s := s) (t := t)
      have h5 : mS s ≤ 5 := by unfold mS; omega
      simp only [Bool.not_true, cond_false]
      rw [loop_to (B := p_spec_TreeFix_L2 s (ixI s.legs.length t)) (fun k => ((pk s.legs t).take k, (k : Int))) (ixI s.legs.length t).length (by rfl) (e := pk s.legs t) (fun k hk => by
        simp only [p_spec_TreeFix_L2]
        obtain ⟨j, e1, e2, e3⟩ := tree_leg hk
        rw [decide_eq_true (by omega), idx_at hk, e1, idx_at e2, w64_succ (by omega), take_gx (by omega), e3, need_of (by simp only [List.length_take, List.length_cons, List.length_nil]; omega)]; rfl) (by
        simp only [p_spec_TreeFix_L2]
        rw [decide_eq_false (by omega), ← hp, List.take_length]; rfl)]
      simp only [Option.bind_some]
      have hn : s.st = ((mS s + 1 : Nat) : Int) := by unfold mS; omega
      have hw := tfW_len (s := s) (tree := ixI s.legs.length t)
      rw [loop_to (B := p_spec_TreeFix_L3 s (pk s.legs t)) (fun k => ((k : Int), (tfW s (ixI s.legs.length t)).take k)) (mS s + 1) (by rfl) (e := tfW s (ixI s.legs.length t)) (fun k hk => by
        simp only [p_spec_TreeFix_L3]
        have ok2 : SurveyOk (sub s t) := chosen_ok ok
        rw [decide_eq_true (by omega), show (⟨s.st, pk s.legs t⟩ : Survey) = sub s t from rfl, l_specTreePlace (by have := ok2.n9; omega), sub_place ok hts (by omega), w64_succ (by omega), take_gx (by omega)]
        simp only [cond_true, Option.bind_some]
        rw [need_of (by simp only [List.length_take, List.length_cons, List.length_nil]; omega)]) (by
        simp only [p_spec_TreeFix_L3]
        rw [decide_eq_false (by omega), ← hw, List.take_length]; rfl)]
      rfl

end Go.Proofs.Ytkhjbfngafebeaa
