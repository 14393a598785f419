/- The places that a tree tells, and the sum over all trees, by both programs; no condition but the sizes. -/
import Derived.Test.YtkhjbfngafebeaaZL7
import Derived.Test.YtkhjbfngafebeaaZL5
import Derived.Test.YtkhjbfngafebeaaZL8
import Derived.Test.YtkhjbfngafebeaaZQ
namespace Go.Proofs.Ytkhjbfngafebeaa
open Go
set_option linter.unusedVariables false
set_option linter.unusedSimpArgs false

theorem tree_legs {s : Survey} {t : Nat} : pk s.legs t = (ixI s.legs.length t).map fun i => gx s.legs i.toNat := by
  rw [pk_gx]; unfold ixI
  rw [List.map_map]
  apply List.map_congr_left
  intro a _; simp
theorem tree_leg {s : Survey} {t k : Nat} (hk : k < (ixI s.legs.length t).length) : ∃ j : Nat, gx (ixI s.legs.length t) k = (j : Int) ∧ j < s.legs.length ∧ gx (pk s.legs t) k = gx s.legs j := by
  obtain ⟨j, h1, h2, h3⟩ := ixI_mem hk
  refine ⟨j, h1, h2, ?_⟩
  rw [tree_legs, gx_of_map hk, h1]; rfl
theorem pk_ixl {s : Survey} {t : Nat} : (pk s.legs t).length = (ixI s.legs.length t).length := by rw [tree_legs, List.length_map]
theorem tfix_no {s : Survey} {tree : List Int} (h : (surveyOk s && isTreeB s tree) = false) : tfix s tree = (⟨0, []⟩, false) := by unfold tfix; rw [h]; rfl
theorem l_implTreeFix {s : Survey} {tree : List Int} (h : s.legs.length ≤ 4611686018427387904) (ht : tree.length ≤ 4611686018427387904) : p_impl_TreeFix s tree = some (tfix s tree) := by
  unfold p_impl_TreeFix
  rw [show (⟨s.st, s.legs⟩ : Survey) = s from rfl, l_implSurveyValid h]
  cases hv : surveyOk s with
  | false => rw [tfix_no (by rw [hv]; rfl)]; rfl
  | true =>
    have ok := surveyOk_iff.1 hv
    have p1 := ok.p1; have p6 := ok.p6; have n9 := ok.n9
    rw [l_isTree ok ht]
    cases hb : isTreeB s tree with
    | false => rw [tfix_no (by rw [hb, hv]; rfl)]; rfl
    | true =>
      have et : tfix s tree = (⟨1, tfW s tree⟩, true) := by unfold tfix; rw [hb, hv]; rfl
      rw [et]
      obtain ⟨t, ht2, hts, rfl⟩ := tree_set ok hb
      have hl := tree_len ok hts
      have hp := pk_ixl (s := s) (t := t)
      have h5 : mS s ≤ 5 := by unfold mS; omega
      simp only [Option.bind_some, Bool.not_true, cond_false]
      rw [loop_to (B := p_impl_TreeFix_L0 s (ixI s.legs.length t)) (fun k => ((k : Int), (pk s.legs t).take k)) (ixI s.legs.length t).length (by rfl) (e := pk s.legs t) (fun k hk => by
        simp only [p_impl_TreeFix_L0]
        obtain ⟨j, e1, e2, e3⟩ := tree_leg hk
        rw [decide_eq_true (by omega), idx_at hk, e1, idx_at e2, w64_succ (by omega), take_gx (by omega), e3, need_of (by simp only [List.length_take, List.length_cons, List.length_nil]; omega)]; rfl) (by
        simp only [p_impl_TreeFix_L0]
        rw [decide_eq_false (by omega), ← hp, List.take_length]; rfl)]
      simp only [Option.bind_some]
      have hn : s.st = ((mS s + 1 : Nat) : Int) := by unfold mS; omega
      have hw := tfW_len (s := s) (tree := ixI s.legs.length t)
      rw [hn, sized_at (by omega)]
      rw [loop_to (B := p_impl_TreeFix_L1 s (pk s.legs t) (mS s + 1)) (fun k => ((k : Int), fillG (tfW s (ixI s.legs.length t)) ⟨0, 0, 0⟩ k)) (mS s + 1) (by
        rw [← fillG_zero, hw]; rfl) (e := tfW s (ixI s.legs.length t)) (fun k hk => by
        simp only [p_impl_TreeFix_L1]
        have ok2 : SurveyOk (sub s t) := chosen_ok ok
        rw [decide_eq_true (by omega), show (⟨s.st, pk s.legs t⟩ : Survey) = sub s t from rfl, l_implTreePlace (by have := ok2.n9; omega), sub_place ok hts (by omega), w64_succ (by omega)]
        simp only [cond_true, Option.bind_some]
        rw [idx_at hk, ← fillG_set (l := tfW s (ixI s.legs.length t)) (by omega)]) (by
        simp only [p_impl_TreeFix_L1]
        rw [decide_eq_false (by omega), ← hw, fillG_end]; rfl)]
      rfl
theorem l_sameTree {all : List (List Int)} {tree : List Int} {k : Nat} (hk : k < all.length) (ht : tree.length ≤ 4611686018427387904) :
    loop (p_spec_TreeFix_L1 tree all (k : Int)) ((((gx all k).length : Nat) : Int) == ((tree.length : Nat) : Int), 0) = some (decide (gx all k = tree)) := by
  refine Tot.get (Tot.loop (fun z => ∃ j : Nat, z.2 = (j : Int) ∧ j ≤ tree.length ∧ (z.1 = true → (gx all k).length = tree.length ∧ ∀ i, i < j → gx (gx all k) i = gx tree i) ∧ (z.1 = false → gx all k ≠ tree)) (fun z => tree.length - z.2.toNat) (fun ⟨b, j⟩ hz => ?_) ⟨0, rfl, Nat.zero_le _, fun h => ⟨by have := beq_iff_eq.1 h; omega, fun i hi => by omega⟩, fun h e => by rw [e] at h; simp at h⟩)
  obtain ⟨j, hj0, hj, h1, h2⟩ := hz
  simp only at hj0 h1 h2
  subst hj0
  simp only [p_spec_TreeFix_L1]
  cases b with
  | false =>
    have e : (cond (decide ((j : Int) < ((tree.length : Nat) : Int))) (some false) (some false) : O Bool) = some false := by cases decide ((j : Int) < ((tree.length : Nat) : Int)) <;> rfl
    rw [e]
    exact Tot.ret (decide_eq_false (h2 rfl)).symm
  | true =>
    obtain ⟨h3, h4⟩ := h1 rfl
    by_cases c : j < tree.length
    · rw [decide_eq_true (show (j : Int) < ((tree.length : Nat) : Int) by omega)]
      simp only [cond_true, Option.bind_some]
      rw [idx_at hk, idx_at (by omega), idx_at c, w64_succ (by omega)]
      refine Tot.ret ⟨⟨j + 1, rfl, by omega, fun h => ⟨h3, fun i hi => ?_⟩, fun h e => ?_⟩, by simp only [Int.toNat_natCast]; omega⟩
      · by_cases c2 : i = j
        · subst c2; exact beq_iff_eq.1 h
        · exact h4 i (by omega)
      · rw [e] at h; simp at h
    · rw [decide_eq_false (show ¬ (j : Int) < ((tree.length : Nat) : Int) by omega)]
      exact Tot.ret (decide_eq_true (gx_ext h3 fun i hi => h4 i (by omega))).symm
theorem TA_len {s : Survey} : (TA s).length ≤ 512 := by
  unfold TA
  cases hv : surveyOk s with
  | false => simp
  | true =>
    rw [if_pos rfl, List.length_map]
    have := filter_len (p := tset s) (x := 2 ^ s.legs.length)
    have := (two_pow (surveyOk_iff.1 hv).n9).2
    unfold tsets; omega
theorem any_mem {l : List (List Int)} {x : List Int} : (List.range l.length).any (fun i => decide (gx l i = x)) = decide (x ∈ l) := by
  rw [Bool.eq_iff_iff, decide_eq_true_eq, List.any_eq_true]
  constructor
  · rintro ⟨i, hi, h⟩
    rw [← of_decide_eq_true h]; exact gx_mem (List.mem_range.1 hi)
  · intro h
    obtain ⟨i, hi, e⟩ := mem_gx h
    exact ⟨i, List.mem_range.2 hi, decide_eq_true e⟩
theorem l_specTreeFix {s : Survey} {tree : List Int} (h : s.legs.length ≤ 4611686018427387904) (ht : tree.length ≤ 4611686018427387904) : p_spec_TreeFix s tree = some (tfix s tree) := by
  unfold p_spec_TreeFix
  rw [show (⟨s.st, s.legs⟩ : Survey) = s from rfl, l_specTreesAll h]
  have hT := TA_len (s := s)
  simp only [Option.bind_some]
  rw [loop_to (B := p_spec_TreeFix_L0 tree (TA s)) (fun k => ((List.range k).any (fun i => decide (gx (TA s) i = tree)), (k : Int))) (TA s).length (by rfl) (e := decide (tree ∈ TA s)) (fun k hk => by
    simp only [p_spec_TreeFix_L0]
    rw [decide_eq_true (by omega), idx_at hk, l_sameTree hk ht, w64_succ (by omega), List.range_succ, List.any_append]
    simp only [cond_true, Option.bind_some, List.any_cons, List.any_nil, Bool.or_false]
    cases (List.range k).any (fun i => decide (gx (TA s) i = tree)) <;> rfl) (by
    simp only [p_spec_TreeFix_L0]
    rw [decide_eq_false (by omega), any_mem]; rfl)]
  simp only [Option.bind_some]
  cases hv : surveyOk s with
  | false =>
    have : TA s = [] := by unfold TA; rw [hv]; rfl
    rw [tfix_no (by rw [hv]; rfl), this]; rfl
  | true =>
    have ok := surveyOk_iff.1 hv
    have p1 := ok.p1; have p6 := ok.p6; have n9 := ok.n9
    have em : decide (tree ∈ TA s) = isTreeB s tree := by
      rw [Bool.eq_iff_iff, decide_eq_true_eq, tree_mem ok]
    rw [em]
    cases hb : isTreeB s tree with
    | false => rw [tfix_no (by rw [hb, hv]; rfl)]; rfl
    | true =>
      have et : tfix s tree = (⟨1, tfW s tree⟩, true) := by unfold tfix; rw [hb, hv]; rfl
      rw [et]
      obtain ⟨t, ht2, hts, rfl⟩ := tree_set ok hb
      have hl := tree_len ok hts
      have hp := pk_ixl (s := s) (t := t)
      have h5 : mS s ≤ 5 := by unfold mS; omega
      simp only [Bool.not_true, cond_false]
      rw [loop_to (B := p_spec_TreeFix_L2 s (ixI s.legs.length t)) (fun k => ((pk s.legs t).take k, (k : Int))) (ixI s.legs.length t).length (by rfl) (e := pk s.legs t) (fun k hk => by
        simp only [p_spec_TreeFix_L2]
        obtain ⟨j, e1, e2, e3⟩ := tree_leg hk
        rw [decide_eq_true (by omega), idx_at hk, e1, idx_at e2, w64_succ (by omega), take_gx (by omega), e3, need_of (by simp only [List.length_take, List.length_cons, List.length_nil]; omega)]; rfl) (by
        simp only [p_spec_TreeFix_L2]
        rw [decide_eq_false (by omega), ← hp, List.take_length]; rfl)]
      simp only [Option.bind_some]
      have hn : s.st = ((mS s + 1 : Nat) : Int) := by unfold mS; omega
      have hw := tfW_len (s := s) (tree := ixI s.legs.length t)
      rw [loop_to (B := p_spec_TreeFix_L3 s (pk s.legs t)) (fun k => ((k : Int), (tfW s (ixI s.legs.length t)).take k)) (mS s + 1) (by rfl) (e := tfW s (ixI s.legs.length t)) (fun k hk => by
        simp only [p_spec_TreeFix_L3]
        have ok2 : SurveyOk (sub s t) := chosen_ok ok
        rw [decide_eq_true (by omega), show (⟨s.st, pk s.legs t⟩ : Survey) = sub s t from rfl, l_specTreePlace (by have := ok2.n9; omega), sub_place ok hts (by omega), w64_succ (by omega), take_gx (by omega)]
        simp only [cond_true, Option.bind_some]
        rw [need_of (by simp only [List.length_take, List.length_cons, List.length_nil]; omega)]) (by
        simp only [p_spec_TreeFix_L3]
        rw [decide_eq_false (by omega), ← hw, List.take_length]; rfl)]
      rfl

theorem tset_c {s : Survey} {c : Leg → Int} {t : Nat} : isT (mS s) pid (Ec s c) t = tset s t := by
  unfold tset Ec lE
  rw [isT_pk, isT_pk, pk_map, pk_map, jok_ab (eL_ab (c := c) (d := c0)), fj_ab (eL_ab (c := c) (d := c0))]
theorem lsum_gx {α : Type} [Inhabited α] {g : α → Int} : ∀ {l : List α}, lsum (l.map g) = sm l.length fun j => g (gx l j)
  | [] => rfl
  | x :: l => by
    rw [List.map_cons, List.length_cons, sm_front]
    show g x + lsum (l.map g) = _
    rw [lsum_gx]
    congr 1
theorem TA_gx {s : Survey} {j : Nat} (ok : SurveyOk s) (hj : j < (TA s).length) : ∃ t, tset s t = true ∧ gx (TA s) j = ixI s.legs.length t ∧ gx (tsets s) j = t ∧ j < (tsets s).length := by
  have e : TA s = (tsets s).map (ixI s.legs.length) := by unfold TA; rw [if_pos (surveyOk_iff.2 ok)]
  rw [e, List.length_map] at hj
  refine ⟨gx (tsets s) j, ?_, by rw [e, gx_of_map hj], rfl, hj⟩
  have := gx_mem hj
  unfold tsets at this
  rw [List.mem_filter] at this
  exact this.2
theorem sum_pA {s : Survey} {c : Leg → Int} {v : Nat} (h : adjOk s = true) (hv : v ≤ mS s) : sm (TA s).length (fun j => yT s c (gx (TA s) j) v) = pA s c v := by
  obtain ⟨ok, h1⟩ := adj_one h
  have e : TA s = (tsets s).map (ixI s.legs.length) := by unfold TA; rw [if_pos (surveyOk_iff.2 ok)]
  have hl : (TA s).length = (tsets s).length := by rw [e, List.length_map]
  rw [pA_qs h v hv]
  unfold qs
  rw [ts_sets, Ec_len, hl]
  have e1 : sm (tsets s).length (fun j => yT s c (gx (TA s) j) v) = lsum ((tsets s).map fun t => yT s c (ixI s.legs.length t) v) := by
    rw [lsum_gx]
    refine sm_congr fun j hj => ?_
    rw [e, gx_of_map hj]
  rw [e1]
  unfold tsets
  rw [lsum_sets]
  refine sm_congr fun t ht => ?_
  rw [tset_c, wT_one Ec_w, yT_oT, Int.one_mul]; rfl
/-- The sums over the first trees. -/
def acW (s : Survey) (k : Nat) : List Way := (List.range (mS s + 1)).map fun v => ⟨sm k fun j => yT s Leg.e (gx (TA s) j) v, sm k fun j => yT s Leg.n (gx (TA s) j) v, sm k fun j => yT s Leg.u (gx (TA s) j) v⟩
theorem acW_len {s : Survey} {k : Nat} : (acW s k).length = mS s + 1 := by simp [acW]
theorem acW_gx {s : Survey} {k v : Nat} (h : v < mS s + 1) : gx (acW s k) v = ⟨sm k fun j => yT s Leg.e (gx (TA s) j) v, sm k fun j => yT s Leg.n (gx (TA s) j) v, sm k fun j => yT s Leg.u (gx (TA s) j) v⟩ := by
  unfold acW; rw [gx_of_map (by simpa using h), gx_range h]
theorem acW_end {s : Survey} (h : adjOk s = true) : acW s (TA s).length = wsA s := by
  apply gx_ext (by rw [acW_len, wsA_len])
  intro v hv
  rw [acW_len] at hv
  rw [acW_gx hv, wsA_gx hv, sum_pA h (by omega), sum_pA h (by omega), sum_pA h (by omega)]
theorem acW_zero {s : Survey} : acW s 0 = List.replicate (mS s + 1) ⟨0, 0, 0⟩ := by
  apply gx_ext (by simp [acW_len])
  intro v hv
  rw [acW_len] at hv
  rw [acW_gx hv, gx_rep hv]; rfl
theorem ac_bd {s : Survey} {c : Leg → Int} {v : Nat} (ok : SurveyOk s) (hc : Dir0 c) (hv : v ≤ mS s) : ∀ {k : Nat}, k ≤ (TA s).length → -(495 * (k : Int)) ≤ sm k (fun j => yT s c (gx (TA s) j) v) ∧ sm k (fun j => yT s c (gx (TA s) j) v) ≤ 495 * (k : Int)
  | 0, _ => by simp [sm]
  | k + 1, h => by
    have h1 := ac_bd ok hc hv (k := k) (by omega)
    obtain ⟨t, h2, h3, _⟩ := TA_gx ok (show k < (TA s).length by omega)
    have h4 := yT_bd ok hc h2 hv
    rw [← h3] at h4
    show -(495 * ((k + 1 : Nat) : Int)) ≤ sm k (fun j => yT s c (gx (TA s) j) v) + yT s c (gx (TA s) k) v ∧ sm k (fun j => yT s c (gx (TA s) j) v) + yT s c (gx (TA s) k) v ≤ 495 * ((k + 1 : Nat) : Int)
    omega
theorem ac_add {s : Survey} {k v : Nat} (ok : SurveyOk s) (hk : k < (TA s).length) (hv : v < mS s + 1) :
    (⟨w64 ((gx (acW s k) v).e + (gx (tfW s (gx (TA s) k)) v).e), w64 ((gx (acW s k) v).n + (gx (tfW s (gx (TA s) k)) v).n), w64 ((gx (acW s k) v).u + (gx (tfW s (gx (TA s) k)) v).u)⟩ : Way) = gx (acW s (k + 1)) v := by
  rw [acW_gx hv, tfW_gx hv, acW_gx hv]
  have hT := TA_len (s := s)
  have b1 := ac_bd ok dir0_e (show v ≤ mS s by omega) (show k + 1 ≤ (TA s).length by omega)
  have b2 := ac_bd ok dir0_n (show v ≤ mS s by omega) (show k + 1 ≤ (TA s).length by omega)
  have b3 := ac_bd ok dir0_u (show v ≤ mS s by omega) (show k + 1 ≤ (TA s).length by omega)
  have e1 : sm (k + 1) (fun j => yT s Leg.e (gx (TA s) j) v) = sm k (fun j => yT s Leg.e (gx (TA s) j) v) + yT s Leg.e (gx (TA s) k) v := rfl
  have e2 : sm (k + 1) (fun j => yT s Leg.n (gx (TA s) j) v) = sm k (fun j => yT s Leg.n (gx (TA s) j) v) + yT s Leg.n (gx (TA s) k) v := rfl
  have e3 : sm (k + 1) (fun j => yT s Leg.u (gx (TA s) j) v) = sm k (fun j => yT s Leg.u (gx (TA s) j) v) + yT s Leg.u (gx (TA s) k) v := rfl
  rw [e1] at b1; rw [e2] at b2; rw [e3] at b3
  rw [e1, e2, e3]
  simp only
  rw [w64_i (by omega), w64_i (by omega), w64_i (by omega)]
theorem TA_fix {s : Survey} {k : Nat} (ok : SurveyOk s) (hk : k < (TA s).length) : tfix s (gx (TA s) k) = (⟨1, tfW s (gx (TA s) k)⟩, true) := by
  have := (tree_mem ok).2 (gx_mem hk)
  unfold tfix
  rw [surveyOk_iff.2 ok, this]; rfl
theorem TA_small {s : Survey} {k : Nat} (ok : SurveyOk s) (hk : k < (TA s).length) : (gx (TA s) k).length ≤ 9 := by
  obtain ⟨t, h1, h2, _⟩ := TA_gx ok hk
  rw [h2]
  have := ixI_len (n := s.legs.length) (s := t)
  have := ok.n9
  omega
theorem TA_one {s : Survey} (ok : SurveyOk s) : (pm s == 1) = !(decide ((TA s).length = 0)) := by
  rw [pm_one ok]
  have e := tm_len ok
  have t : tm s = D (mS s) (lE s) := by unfold tm; rw [if_pos (surveyOk_iff.2 ok)]
  have p := D_pos (sv_in ok) lE_w
  have c := conn_iff (m := mS s) (E := lE s)
  have n := D_nonneg (sv_in ok) lE_w
  show one (mS s) (sP s) = _
  rw [Bool.eq_iff_iff]
  simp only [Bool.not_eq_true', decide_eq_false_iff_not]
  have e2 : one (mS s) (sP s) = true ↔ 0 < D (mS s) (lE s) := by rw [p]; exact c
  rw [e2]; omega
theorem l_implTreesFix {s : Survey} (h : s.legs.length ≤ 4611686018427387904) : p_impl_TreesFix s = some (adj s) := by
  unfold p_impl_TreesFix
  rw [show (⟨s.st, s.legs⟩ : Survey) = s from rfl, l_implSurveyValid h, l_implPartsMany h]
  have no : adjOk s = false → adj s = (⟨0, []⟩, false) := fun ha => by unfold adj; rw [ha]; rfl
  cases hv : surveyOk s with
  | false => rw [no (by unfold adjOk; rw [hv]; rfl)]; rfl
  | true =>
    have ok := surveyOk_iff.1 hv
    have p1 := ok.p1; have p6 := ok.p6; have n9 := ok.n9
    simp only [Option.bind_some, Bool.not_true, cond_false, bne]
    cases hp : (pm s == 1) with
    | false => rw [no (by unfold adjOk; rw [hv, hp]; rfl)]; rfl
    | true =>
      have ha : adjOk s = true := by unfold adjOk; rw [hv, hp]; rfl
      rw [adj_eq ha, l_implTreesAll h]
      have hT := TA_len (s := s)
      simp only [Bool.not_true, cond_false, Option.bind_some]
      have hn : s.st = ((mS s + 1 : Nat) : Int) := by unfold mS; omega
      rw [hn, sized_at (by omega)]
      rw [loop_to (B := p_impl_TreesFix_L0 s (TA s) (mS s + 1)) (fun k => ((k : Int), acW s k)) (TA s).length (by rw [acW_zero]; rfl) (e := wsA s) (fun k hk => by
        simp only [p_impl_TreesFix_L0]
        rw [decide_eq_true (by omega), idx_at hk, show (⟨s.st, s.legs⟩ : Survey) = s from rfl, l_implTreeFix h (by have := TA_small ok hk; omega), TA_fix ok hk, w64_succ (by omega)]
        simp only [cond_true, Option.bind_some]
        have hw := tfW_len (s := s) (tree := gx (TA s) k)
        have a1 := acW_len (s := s) (k := k)
        have a2 := acW_len (s := s) (k := k + 1)
        rw [loop_to (B := p_impl_TreesFix_L1 (mS s + 1) ⟨1, tfW s (gx (TA s) k)⟩) (fun x => ((x : Int), mixG (acW s (k + 1)) (acW s k) x)) (mS s + 1) (by rw [mixG_zero]; rfl) (e := acW s (k + 1)) (fun x hx => by
          simp only [p_impl_TreesFix_L1, p_impl_WayAdd, Option.bind_some]
          rw [decide_eq_true (by omega), idx_at (by omega), idx_at hx, w64_succ (by unfold mS at hx; omega), mixG_gx (by omega) (by omega), ac_add ok hk hx, mixG_set (by omega) (by omega)]; rfl) (by
          simp only [p_impl_TreesFix_L1]
          rw [decide_eq_false (by omega)]
          simp only [cond_false]
          rw [← a1, mixG_end (by omega)])]
        rfl) (by
        simp only [p_impl_TreesFix_L0]
        rw [decide_eq_false (by omega), acW_end ha]; rfl)]
      rw [tm_len ok]; rfl
theorem l_specTreesFix {s : Survey} (h : s.legs.length ≤ 4611686018427387904) : p_spec_TreesFix s = some (adj s) := by
  unfold p_spec_TreesFix
  rw [show (⟨s.st, s.legs⟩ : Survey) = s from rfl, l_specTreesAll h]
  have no : adjOk s = false → adj s = (⟨0, []⟩, false) := fun ha => by unfold adj; rw [ha]; rfl
  simp only [Option.bind_some]
  cases hv : surveyOk s with
  | false =>
    have : TA s = [] := by unfold TA; rw [hv]; rfl
    rw [no (by unfold adjOk; rw [hv]; rfl), this]; rfl
  | true =>
    have ok := surveyOk_iff.1 hv
    have p1 := ok.p1; have p6 := ok.p6; have n9 := ok.n9
    have h1 := TA_one ok
    have hT := TA_len (s := s)
    by_cases h0 : (TA s).length = 0
    · rw [decide_eq_true h0] at h1
      rw [no (by unfold adjOk; rw [hv, h1]; rfl), h0]; rfl
    · rw [decide_eq_false h0] at h1
      have ha : adjOk s = true := by unfold adjOk; rw [hv, h1]; rfl
      rw [adj_eq ha, show ((((TA s).length : Nat) : Int) == 0) = false by rw [beq_dec]; exact decide_eq_false (by omega)]
      simp only [cond_false]
      have hn : s.st = ((mS s + 1 : Nat) : Int) := by unfold mS; omega
      have hs : sized (β := Fix × Bool) s.st = sized ((mS s + 1 : Nat) : Int) := by rw [← hn]
      rw [hs, sized_at (by omega)]
      rw [loop_to (B := p_spec_TreesFix_L0 s (TA s) (mS s + 1)) (fun k => ((k : Int), acW s k)) (TA s).length (by rw [acW_zero]; rfl) (e := wsA s) (fun k hk => by
        simp only [p_spec_TreesFix_L0]
        rw [decide_eq_true (by omega), idx_at hk, show (⟨s.st, s.legs⟩ : Survey) = s from rfl, l_specTreeFix h (by have := TA_small ok hk; omega), TA_fix ok hk, w64_succ (by omega)]
        simp only [cond_true, Option.bind_some]
        have hw := tfW_len (s := s) (tree := gx (TA s) k)
        have a1 := acW_len (s := s) (k := k)
        have a2 := acW_len (s := s) (k := k + 1)
        rw [loop_to (B := p_spec_TreesFix_L1 s (mS s + 1) ⟨1, tfW s (gx (TA s) k)⟩) (fun x => ((x : Int), mixG (acW s (k + 1)) (acW s k) x)) (mS s + 1) (by rw [mixG_zero]; rfl) (e := acW s (k + 1)) (fun x hx => by
          simp only [p_spec_TreesFix_L1, p_spec_WayAdd, Option.bind_some]
          rw [decide_eq_true (by omega), idx_at hx, idx_at (by omega), w64_succ (by unfold mS at hx; omega), mixG_gx (by omega) (by omega), ac_add ok hk hx, mixG_set (by omega) (by omega)]; rfl) (by
          simp only [p_spec_TreesFix_L1]
          rw [decide_eq_false (by omega)]
          simp only [cond_false]
          rw [← a1, mixG_end (by omega)])]
        rfl) (by
        simp only [p_spec_TreesFix_L0]
        rw [decide_eq_false (by omega), acW_end ha]; rfl)]
      rw [tm_len ok]; rfl
end Go.Proofs.Ytkhjbfngafebeaa
