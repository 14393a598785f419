/- The law of all trees, as a plain program; no condition. -/
import Derived.Test.YtnibfmofkamjoaaDoorZL7
import Derived.Test.YtnibfmofkamjoaaDoorZLp
import Derived.Test.YtnibfmofkamjoaaDoorZL2
import Derived.Test.YtnibfmofkamjoaaDoorZL3
import Derived.Test.YtnibfmofkamjoaaDoorZLs
import Derived.Test.YtnibfmofkamjoaaDoorZQ
namespace Go.Proofs.YtnibfmofkamjoaaDoor
open Go
set_option linter.unusedVariables false
set_option linter.unusedSimpArgs false

theorem t_drawTreesAll {code : List UInt8} : Tot (p_spec_DrawTreesAll code) fun r => r.legs.length ≤ 10 ∧ 0 ≤ r.st ∧ r.st ≤ 7 := by
  unfold p_spec_DrawTreesAll
  obtain ⟨b, hb, hl⟩ := x_bopen (code := code)
  rw [hb]; simp only [Option.bind_some]
  refine Tot.bind (t_linked hl (by omega) (by omega)) fun ⟨s, q⟩ h => Tot.ret ?_
  simp only at h ⊢
  exact h.2.2
theorem bits_ext : ∀ {n t t' : Nat}, t < 2 ^ n → t' < 2 ^ n → (∀ k, k < n → has t k = has t' k) → t = t'
  | 0, t, t', h, h', _ => by simp at h h'; omega
  | n + 1, t, t', h, h', e => by
    rw [Nat.pow_succ] at h h'
    have e0 := e 0 (by omega)
    rw [has_zero, has_zero] at e0
    have e1 := bits_ext (n := n) (t := t / 2) (t' := t' / 2) (by omega) (by omega) fun k hk => by
      rw [← has_succ, ← has_succ]; exact e (k + 1) (by omega)
    have e2 : t % 2 = t' % 2 := by
      by_cases c : t % 2 = 1
      · rw [c] at e0
        have := beq_iff_eq.1 e0.symm
        omega
      · have : (t % 2 == 1) = false := beq_eq_false_iff_ne.2 c
        rw [this] at e0
        have := beq_eq_false_iff_ne.1 e0.symm
        omega
    omega
theorem ixI_inj {n t t' : Nat} (h : t < 2 ^ n) (h' : t' < 2 ^ n) (e : ixI n t = ixI n t') : t = t' :=
  bits_ext h h' fun k hk => by rw [← ixI_has hk, ← ixI_has hk, e]
theorem TL_pw {s : Survey} : ∀ {k : Nat}, (TL s k).Pairwise (· < ·)
  | 0 => List.Pairwise.nil
  | k + 1 => by
    unfold TL
    split
    · rw [List.pairwise_append]
      refine ⟨TL_pw, List.pairwise_singleton _ _, fun x hx y hy => ?_⟩
      rw [List.mem_singleton.1 hy]
      exact (TL_mem x hx).2
    · exact TL_pw
/-- Linked: the tree legs are a tree. -/
theorem tl_tree {s : Survey} (ok : SurveyOk s) (h1 : one (mS s) (sP s) = true) : isTreeB s (tl s) = true := by
  have p1 := ok.p1
  have hI : Inm (mS s) (us s (tl s)) := fun e he => by
    unfold us at he
    obtain ⟨i, hi, rfl⟩ := List.mem_map.1 he
    obtain ⟨h0, h1⟩ := tl_mem i hi
    have a := ok.lg i.toNat (by omega)
    have := a.f1; have := a.t1; have := a.f0; have := a.t0
    unfold mS
    refine ⟨?_, ?_⟩ <;> simp only [eL] <;> omega
  have hl := ((tree_iff hI).1 ⟨tl_jok, by rw [tl_parts]; exact h1⟩).1
  rw [us_len] at hl
  have hj := tl_jok (s := s)
  rw [jok_take, List.all_eq_true] at hj
  unfold isTreeB
  rw [Bool.and_eq_true, decide_eq_true_eq, List.all_eq_true]
  refine ⟨by unfold mS at hl; omega, fun x hx => ?_⟩
  have hx := List.mem_range.1 hx
  have h2 := tl_at (s := s) x hx
  unfold tq
  rw [decide_eq_true h2.1, decide_eq_true h2.2]
  simp only [Bool.and_self, Bool.true_and, Bool.and_eq_true, Bool.or_eq_true, decide_eq_true_eq]
  refine ⟨?_, hj x (List.mem_range.2 (by rw [us_len]; exact hx))⟩
  by_cases c : x = 0
  · exact .inl c
  · right
    have pw := TL_pw (s := s) (k := s.legs.length)
    rw [List.pairwise_iff_getElem] at pw
    have := pw (x - 1) x (by show x - 1 < (tl s).length; omega) hx (by omega)
    have e1 := gx_eq (l := tl s) (k := x - 1) (by omega)
    have e2 := gx_eq (l := tl s) (k := x) hx
    rw [e1, e2]; exact this
theorem tq_gx {s : Survey} {j : Nat} (ok : SurveyOk s) (hj : j < (TA s).length) : tset s (gx (tsets s) j) = true ∧ gx (TA s) j = ixI s.legs.length (gx (tsets s) j) ∧ gx (tsets s) j < 2 ^ s.legs.length ∧ j < (tsets s).length := by
  have e : TA s = (tsets s).map (ixI s.legs.length) := by unfold TA; rw [if_pos (surveyOk_iff.2 ok)]
  rw [e, List.length_map] at hj
  have h := gx_mem hj
  refine ⟨?_, by rw [e, gx_of_map hj], ?_, hj⟩ <;>
  · unfold tsets at h ⊢
    rw [List.mem_filter, List.mem_range] at h
    first | exact h.2 | exact h.1
theorem TA_apart {s : Survey} {k : Nat} (ok : SurveyOk s) (hk : k + 1 < (TA s).length) : gx (TA s) (k + 1) ≠ gx (TA s) k := fun e => by
  obtain ⟨a1, a2, a3, a4⟩ := tq_gx ok hk
  obtain ⟨b1, b2, b3, b4⟩ := tq_gx ok (show k < (TA s).length by omega)
  rw [a2, b2] at e
  have h := ixI_inj a3 b3 e
  have pw : (tsets s).Pairwise (· < ·) := List.pairwise_lt_range.filter _
  rw [List.pairwise_iff_getElem] at pw
  have := pw k (k + 1) b4 a4 (by omega)
  rw [gx_eq a4, gx_eq b4] at h
  omega
theorem TA_le {s : Survey} : (TA s).length ≤ 512 := by
  unfold TA
  cases hv : surveyOk s with
  | false => simp
  | true =>
    rw [if_pos rfl, List.length_map]
    have := filter_len (p := tset s) (x := 2 ^ s.legs.length)
    have := (two_pow (surveyOk_iff.1 hv).n9).2
    unfold tsets; omega
theorem TA_row {s : Survey} {k : Nat} (hk : k < (TA s).length) : (gx (TA s) k).length ≤ 4611686018427387904 := by
  cases hv : surveyOk s with
  | false => unfold TA at hk; rw [hv] at hk; simp at hk
  | true =>
    have ok := surveyOk_iff.1 hv
    rw [(tq_gx ok hk).2.1]
    have := ixI_len (n := s.legs.length) (s := gx (tsets s) k)
    have := ok.n9
    omega
theorem l_FnTreesAll {code : List UInt8} : p_laws_FnTreesAll code = some true := by
  refine Tot.get ?_
  unfold p_laws_FnTreesAll
  refine Tot.condd (fun _ => Tot.ret rfl) (fun _ => ?_)
  refine Tot.bind t_drawTreesAll fun s ⟨hm, hp0, hp7⟩ => ?_
  rw [show (⟨s.st, s.legs⟩ : Survey) = s from rfl, l_implTreesAll (by omega), l_specTreesAll (by omega)]
  simp only [Option.bind_some]
  have hT := TA_le (s := s)
  rw [l_sameLists (by omega) (fun k hk => TA_row hk), decide_eq_true rfl]
  simp only [Option.bind_some, Bool.not_true, cond_false]
  by_cases h0 : (TA s).length = 0
  · rw [h0, l_alive]; exact Tot.ret rfl
  · rw [show ((((TA s).length : Nat) : Int) == 0) = false by rw [beq_dec]; exact decide_eq_false (by omega)]
    simp only [cond_false]
    have hv : surveyOk s = true := by
      cases hv : surveyOk s with
      | true => rfl
      | false => exfalso; apply h0; unfold TA; rw [hv]; rfl
    have ok := surveyOk_iff.1 hv
    have p1 := ok.p1; have p6 := ok.p6; have n9 := ok.n9
    rw [l_implTreeLegs (by omega), if_pos hv]
    simp only [Option.bind_some]
    have hfew := tl_few ok
    have h5 : mS s ≤ 5 := by unfold mS; omega
    have h1 : one (mS s) (sP s) = true := by
      have e := tm_len ok
      have t : tm s = D (mS s) (lE s) := by unfold tm; rw [if_pos hv]
      exact conn_iff.2 ((D_pos (sv_in ok) lE_w).1 (by omega))
    have htl := (tree_mem ok).1 (tl_tree ok h1)
    rw [loop_to (B := p_laws_FnTreesAll_L0 s (TA s) (tl s)) (fun k => ((List.range k).any (fun i => decide (gx (TA s) i = tl s)), (k : Int))) (TA s).length (by rfl) (e := .inl true) (fun k hk => by
      simp only [p_laws_FnTreesAll_L0]
      obtain ⟨a1, a2, a3, a4⟩ := tq_gx ok hk
      have hl := tree_len ok a1
      have ct := chosen_tree ok (t := gx (tsets s) k)
      rw [a1, Bool.and_eq_true] at ct
      have hp : (pk s.legs (gx (tsets s) k)).length = mS s := by
        rw [pk_gx, List.length_map, ← hl]
        unfold ixI; rw [List.length_map]
      have ok2 : SurveyOk ⟨s.st, pk s.legs (gx (tsets s) k)⟩ := chosen_ok ok
      rw [decide_eq_true (by omega)]
      simp only [cond_true]
      rw [loop_to (B := p_laws_FnTreesAll_L1 s (TA s) (k : Int)) (fun j => ((pk s.legs (gx (tsets s) k)).take j, (j : Int))) (mS s) (by rfl) (e := pk s.legs (gx (tsets s) k)) (fun j hj => by
        simp only [p_laws_FnTreesAll_L1]
        obtain ⟨i, e1, e2, e3⟩ := ixI_mem (n := s.legs.length) (t := gx (tsets s) k) (k := j) (by omega)
        have e4 : gx (pk s.legs (gx (tsets s) k)) j = gx s.legs i := by
          rw [pk_gx, gx_of_map (by unfold ixI at hl; rw [List.length_map] at hl; omega)]
          congr 1
          have : gx (ixI s.legs.length (gx (tsets s) k)) j = ((gx (ix s.legs.length (gx (tsets s) k)) j : Nat) : Int) := by
            unfold ixI; rw [gx_of_map (by unfold ixI at hl; rw [List.length_map] at hl; omega)]
          omega
        rw [idx_at hk, a2, decide_eq_true (by omega)]
        simp only [cond_true]
        rw [idx_at (by omega), e1, idx_at e2, w64_succ (by omega), take_gx (by omega), e4, need_of (by simp only [List.length_take, List.length_cons, List.length_nil]; omega)]) (by
        simp only [p_laws_FnTreesAll_L1]
        rw [idx_at hk, a2, decide_eq_false (by omega), ← hp, List.take_length]; rfl)]
      simp only [Option.bind_some]
      have e1 : ((((pk s.legs (gx (tsets s) k)).length : Nat) : Int) != w64 (s.st - 1)) = false := by
        rw [w64_i (by omega), hp, bne_dec, Bool.not_eq_false', decide_eq_true_eq]; unfold mS; omega
      rw [e1, l_implPartsMany (by have := ok2.n9; omega)]
      have e2 : (pm ⟨s.st, pk s.legs (gx (tsets s) k)⟩ != 1) = false := by
        rw [bne, ct.2]; rfl
      simp only [cond_false, Option.bind_some, e2, w64_succ (show k ≤ 4611686018427387904 by omega)]
      have e3 : (cond (decide (0 < ((k : Nat) : Int))) (idx (TA s).length (k : Int) fun j69 => idx (TA s).length (w64 ((k : Int) - 1)) fun j70 => (p_laws_sameInts (gx (TA s) j69) (gx (TA s) j70)).bind fun v72 => some v72) (some false)) = (some false : O Bool) := by
        cases k with
        | zero => rfl
        | succ k =>
          rw [decide_eq_true (by omega), idx_at hk, show w64 (((k + 1 : Nat) : Int) - 1) = (k : Int) by rw [w64_i (by omega)]; omega, idx_at (by omega), l_sameInts (TA_row hk), decide_eq_false (TA_apart ok hk)]
          rfl
      rw [e3]
      simp only [Option.bind_some, cond_false]
      rw [idx_at hk, l_sameInts (TA_row hk), List.range_succ, List.any_append]
      simp only [Option.bind_some, List.any_cons, List.any_nil, Bool.or_false]
      cases (List.range k).any (fun i => decide (gx (TA s) i = tl s)) <;> rfl) (by
      simp only [p_laws_FnTreesAll_L0]
      rw [decide_eq_false (by omega)]
      simp only [cond_false]
      congr 3
      rw [List.any_eq_true]
      obtain ⟨i, hi, e⟩ := mem_gx htl
      exact ⟨i, List.mem_range.2 hi, decide_eq_true e⟩)]
    exact Tot.ret rfl
end Go.Proofs.YtnibfmofkamjoaaDoor
