/- The law of the trees with a leg, as a plain program; no condition. -/
import Derived.Test.YtnibfmofkamjoaaDoorL2
import Derived.Test.YtnibfmofkamjoaaDoorL3
import Derived.Test.YtnibfmofkamjoaaDoorQbk
import Derived.Test.YtnibfmofkamjoaaDoorQ4TreesWith
namespace Go.Proofs.YtnibfmofkamjoaaDoor
open Go
set_option linter.unusedVariables false
set_option linter.unusedSimpArgs false

theorem l_CloneL1 {l : List Leg} (h : l.length ≤ 1073741824) : p_slices_Clone_impl_Leg_impl_Leg l = some l := by
  unfold p_slices_Clone_impl_Leg_impl_Leg; rw [need_of (by simpa using h)]; rfl
theorem l_DeleteL {l : List Leg} {k : Nat} (h : k < l.length) (hl : l.length ≤ 1000000) : p_slices_Delete_impl_Leg_impl_Leg l (k : Int) (w64 ((k : Int) + 1)) = some (l.eraseIdx k) := by
  unfold p_slices_Delete_impl_Leg_impl_Leg
  rw [w64_succ (by omega), cut_at (by omega) (by omega), show ((k : Int) == ((k + 1 : Nat) : Int)) = false by rw [beq_eq_false_iff_ne]; omega, cond_false, show cut l.length 0 (k : Int) = cut l.length ((0 : Nat) : Int) (k : Int) from rfl, cut_at (by omega) (by omega), cut_at (by omega) (by omega), List.eraseIdx_eq_take_drop_succ]
def eraseS (s : Survey) (k : Nat) : Survey := ⟨s.st, s.legs.eraseIdx k⟩
theorem eraseS_ok {s : Survey} (ok : SurveyOk s) (k : Nat) : SurveyOk (eraseS s k) := by
  refine ⟨ok.p1, ok.p6, ?_, fun i hi => ?_⟩
  · have := List.length_eraseIdx_le s.legs k
    have := ok.n9
    unfold eraseS; simp only; omega
  · have hm : gx (eraseS s k).legs i ∈ s.legs := List.mem_of_mem_eraseIdx (gx_mem hi)
    obtain ⟨j, hj, e⟩ := mem_gx hm
    rw [← e]; exact ok.lg j hj
theorem lE_erase {s : Survey} {k : Nat} : lE (eraseS s k) = (lE s).eraseIdx k := by
  unfold lE eraseS
  simp only
  have : ∀ (l : List Leg) (k : Nat), (l.eraseIdx k).map (eL c0) = (l.map (eL c0)).eraseIdx k := by
    intro l
    induction l with
    | nil => intro k; rfl
    | cons a l ih =>
      intro k
      cases k with
      | zero => rfl
      | succ k => simp only [List.eraseIdx_cons_succ, List.map_cons, ih]
  exact this _ _
def inLg (s : Survey) (k : Int) : Bool := decide (0 ≤ k) && decide (k < (s.legs.length : Int))
/-- The trees with a leg. -/
def tws (s : Survey) (k : Int) : Int := if surveyOk s && inLg s k then tm s - tm (eraseS s k.toNat) else -1
theorem tws_sets {s : Survey} (ok : SurveyOk s) {k : Nat} (hk : k < s.legs.length) : tm s - tm (eraseS s k) = sm (2 ^ s.legs.length) fun t => if tset s t && has t k then 1 else 0 := by
  have h := trees_with (sv_in ok) (show k < (lE s).length by rw [lE_len]; exact hk)
  rw [lE_len, ← lE_erase] at h
  unfold tm
  rw [if_pos (surveyOk_iff.2 ok), if_pos (surveyOk_iff.2 (eraseS_ok ok k)), show mS (eraseS s k) = mS s from rfl, ← h]
  refine sm_congr fun t _ => ?_
  rw [wT_one lE_w1]; rfl
theorem tws_bd {s : Survey} (ok : SurveyOk s) {k : Nat} (hk : k < s.legs.length) : 0 ≤ tm s - tm (eraseS s k) ∧ tm s - tm (eraseS s k) ≤ 512 := by
  have h1 := tm_le (s := s)
  have h2 := tm_nonneg (eraseS_ok ok k)
  have h3 : 0 ≤ sm (2 ^ s.legs.length) fun t => if tset s t && has t k then (1 : Int) else 0 := sm_nonneg fun t _ => by split <;> omega
  rw [tws_sets ok hk] at *
  have := tws_sets ok hk
  omega
theorem l_implTreesWith {s : Survey} {k : Int} (h : s.legs.length ≤ 4611686018427387904) : p_impl_TreesWith s k = some (tws s k) := by
  unfold p_impl_TreesWith tws inLg
  rw [show (⟨s.st, s.legs⟩ : Survey) = s from rfl, l_implSurveyValid h, l_isIndex]
  cases hv : surveyOk s with
  | false => rfl
  | true =>
    have ok := surveyOk_iff.1 hv
    have n9 := ok.n9
    simp only [Option.bind_some, Bool.not_true, cond_false, Bool.true_and]
    by_cases hk : 0 ≤ k ∧ k < (s.legs.length : Int)
    · obtain ⟨j, rfl⟩ := Int.eq_ofNat_of_zero_le hk.1
      have hj : j < s.legs.length := by omega
      rw [decide_eq_true hk.1, decide_eq_true hk.2]
      simp only [Bool.and_self, Bool.not_true, cond_false, if_true, Option.bind_some]
      rw [l_CloneL1 (by omega), Option.bind_some, l_DeleteL hj (by omega), Option.bind_some, l_implTreesMany h, Option.bind_some]
      have he := List.length_eraseIdx_le s.legs j
      rw [l_implTreesMany (by simp only; omega), Option.bind_some]
      have e1 : (⟨s.st, s.legs.eraseIdx j⟩ : Survey) = eraseS s j := rfl
      have t := tws_bd ok hj
      rw [e1, w64_i (by omega), Int.toNat_natCast]
    · have : (decide (0 ≤ k) && decide (k < (s.legs.length : Int))) = false := by rw [and_dec, decide_eq_false hk]
      rw [this]; rfl
def hrow (k : Int) (row : List Int) : Int := if decide (k ∈ row) then 1 else 0
theorem hr_bd {s : Survey} (ok : SurveyOk s) {k : Int} : ∀ {q : Nat}, q ≤ (TA s).length → 0 ≤ sm q (fun j => hrow k (gx (TA s) j)) ∧ sm q (fun j => hrow k (gx (TA s) j)) ≤ q
  | 0, _ => by simp [sm]
  | q + 1, h => by
    have h1 := hr_bd ok (k := k) (q := q) (by omega)
    show 0 ≤ sm q (fun j => hrow k (gx (TA s) j)) + hrow k (gx (TA s) q) ∧ sm q (fun j => hrow k (gx (TA s) j)) + hrow k (gx (TA s) q) ≤ ((q + 1 : Nat) : Int)
    have : hrow k (gx (TA s) q) = 0 ∨ hrow k (gx (TA s) q) = 1 := by unfold hrow; split <;> simp
    omega
theorem sm_lsum {f : List Int → Int} : ∀ {l : List (List Int)}, sm l.length (fun j => f (gx l j)) = lsum (l.map f)
  | [] => rfl
  | x :: l => by
    rw [List.length_cons, sm_front, List.map_cons, lsum]
    show f (gx (x :: l) 0) + sm l.length (fun j => f (gx (x :: l) (j + 1))) = _
    rw [gx_zero, ← sm_lsum, show sm l.length (fun j => f (gx (x :: l) (j + 1))) = sm l.length (fun j => f (gx l j)) from sm_congr fun j _ => by rw [gx_succ]]
theorem tws_rows {s : Survey} (ok : SurveyOk s) {k : Nat} (hk : k < s.legs.length) : sm (TA s).length (fun j => hrow (k : Int) (gx (TA s) j)) = tm s - tm (eraseS s k) := by
  rw [sm_lsum, tws_sets ok hk]
  unfold TA
  rw [if_pos (surveyOk_iff.2 ok), List.map_map]
  unfold tsets
  rw [lsum_sets]
  refine sm_congr fun t _ => ?_
  simp only [Function.comp, hrow, ixI_has hk]
  cases tset s t <;> cases has t k <;> rfl
theorem TA_len1 {s : Survey} (ok : SurveyOk s) : (TA s).length ≤ 512 := by
  have h1 := tm_len ok
  have h2 := tm_le (s := s)
  omega
theorem TA_row1 {s : Survey} (ok : SurveyOk s) {k : Nat} (hk : k < (TA s).length) : (gx (TA s) k).length ≤ 4611686018427387904 := by
  have n9 := ok.n9
  unfold TA at hk ⊢
  rw [if_pos (surveyOk_iff.2 ok)] at hk ⊢
  rw [List.length_map] at hk
  rw [gx_of_map hk]
  have := ixI_len (n := s.legs.length) (s := gx (tsets s) k)
  omega
theorem l_specTreesWith {s : Survey} {k : Int} (h : s.legs.length ≤ 4611686018427387904) : p_spec_TreesWith s k = some (tws s k) := by
  unfold p_spec_TreesWith tws inLg
  rw [show (⟨s.st, s.legs⟩ : Survey) = s from rfl, l_specSurveyValid h, l_l1In]
  cases hv : surveyOk s with
  | false => rfl
  | true =>
    have ok := surveyOk_iff.1 hv
    have n9 := ok.n9
    have e : (decide (0 ≤ k) && decide (k ≤ w64 ((s.legs.length : Int) - 1))) = (decide (0 ≤ k) && decide (k < (s.legs.length : Int))) := by
      rw [w64_i (by omega)]; congr 1; rw [decide_eq_decide]; omega
    simp only [Option.bind_some, Bool.not_true, cond_false, Bool.true_and]
    rw [e]
    by_cases hk : 0 ≤ k ∧ k < (s.legs.length : Int)
    · obtain ⟨j, rfl⟩ := Int.eq_ofNat_of_zero_le hk.1
      have hj : j < s.legs.length := by omega
      rw [decide_eq_true hk.1, decide_eq_true hk.2]
      simp only [Bool.and_self, Bool.not_true, cond_false, if_true, Option.bind_some, Int.toNat_natCast]
      rw [l_specTreesAll h, Option.bind_some]
      have hTl := TA_len1 ok
      rw [loop_to (B := p_spec_TreesWith_L0 (j : Int) (TA s)) (fun q => (sm q (fun i => hrow (j : Int) (gx (TA s) i)), (q : Int))) (TA s).length (by rfl) (e := tm s - tm (eraseS s j)) (fun q hq => by
        simp only [p_spec_TreesWith_L0]
        have b := hr_bd ok (k := (j : Int)) (Nat.le_of_lt hq)
        rw [decide_eq_true (by omega), idx_at hq, l_l1Has (TA_row1 ok hq), Option.bind_some, w64_succ (by omega), w64_i (by omega)]
        show _ = some (Lp.next (sm q (fun i => hrow (j : Int) (gx (TA s) i)) + hrow (j : Int) (gx (TA s) q), ((q + 1 : Nat) : Int)))
        unfold hrow
        cases decide ((j : Int) ∈ gx (TA s) q) with
        | true => rfl
        | false => simp only [cond_true, cond_false, Bool.false_eq_true, if_false, Int.add_zero]) (by
        simp only [p_spec_TreesWith_L0]
        rw [decide_eq_false (by omega), tws_rows ok hj]; rfl)]
      rfl
    · have : (decide (0 ≤ k) && decide (k < (s.legs.length : Int))) = false := by rw [and_dec, decide_eq_false hk]
      rw [this]; rfl
/-- Every tree has as many legs. -/
theorem tws_sum {s : Survey} (ok : SurveyOk s) : sm s.legs.length (fun k => tws s (k : Int)) = (mS s : Int) * tm s := by
  have e1 : sm s.legs.length (fun k => tws s (k : Int)) = sm s.legs.length fun k => sm (2 ^ s.legs.length) fun t => if tset s t && has t k then 1 else 0 := sm_congr fun k hk => by
    have hin : inLg s (k : Int) = true := by unfold inLg; rw [decide_eq_true (by omega), decide_eq_true (by omega)]; rfl
    unfold tws
    rw [surveyOk_iff.2 ok, hin, Bool.and_self, if_pos rfl, Int.toNat_natCast, tws_sets ok hk]
  rw [e1, sm_comm, tm_sets ok, ← sm_mul]
  refine sm_congr fun t _ => ?_
  cases ht : tset s t with
  | false => simp only [Bool.false_and, Bool.false_eq_true, if_false]; rw [sm_zero (fun _ _ => rfl)]; omega
  | true =>
    simp only [Bool.true_and, if_true]
    rw [← filter_count (p := has t)]
    have h := tree_len ok ht
    have : (ixI s.legs.length t).length = ((List.range s.legs.length).filter (has t)).length := by unfold ixI ix; rw [List.length_map]
    omega
theorem t_drawTreesWith {code : List UInt8} : Tot (p_spec_DrawTreesWith code) fun r => r.1.legs.length ≤ 10 ∧ 0 ≤ r.1.st ∧ r.1.st ≤ 7 := by
  unfold p_spec_DrawTreesWith
  obtain ⟨b, hb, hl⟩ := x_bopen (code := code)
  rw [hb]; simp only [Option.bind_some]
  refine Tot.bind (t_linked hl (by omega) (by omega)) fun ⟨m, q⟩ h => ?_
  simp only at h ⊢
  refine Tot.bind (t_index hl (by omega) (by simp only; omega)) fun ⟨k, q⟩ h2 => Tot.ret ?_
  exact h.2.2
theorem l_FnTreesWith {code : List UInt8} : p_laws_FnTreesWith code = some true := by
  refine Tot.get ?_
  unfold p_laws_FnTreesWith
  refine Tot.condd (fun _ => Tot.ret rfl) (fun _ => ?_)
  refine Tot.bind t_drawTreesWith fun ⟨s, k⟩ ⟨hm, hp0, hp6⟩ => ?_
  simp only at hm hp0 hp6 ⊢
  rw [show (⟨s.st, s.legs⟩ : Survey) = s from rfl, l_implTreesWith (by omega), l_specTreesWith (by omega)]
  simp only [Option.bind_some, bne_self_eq_false, cond_false]
  by_cases hb : (surveyOk s && inLg s k) = true
  · have hb' := hb
    rw [Bool.and_eq_true] at hb'
    have ok := surveyOk_iff.1 hb'.1
    have p1 := ok.p1; have p6 := ok.p6; have n9 := ok.n9
    have hk := hb'.2
    unfold inLg at hk
    rw [Bool.and_eq_true, decide_eq_true_eq, decide_eq_true_eq] at hk
    obtain ⟨j, rfl⟩ := Int.eq_ofNat_of_zero_le hk.1
    have hj : j < s.legs.length := by omega
    have et : tws s (j : Int) = tm s - tm (eraseS s j) := by unfold tws; rw [if_pos hb, Int.toNat_natCast]
    have t := tws_bd ok hj
    rw [et, decide_eq_false (by omega)]
    simp only [cond_false]
    rw [show cut s.legs.length 0 (j : Int) = cut s.legs.length ((0 : Nat) : Int) (j : Int) from rfl, cut_at (by omega) (by omega)]
    refine Tot.need (by simp; omega) ?_
    rw [w64_succ (by omega), cut_at (by omega) (by omega)]
    refine Tot.need (by simp; omega) ?_
    have el : (([] : List Leg) ++ ((s.legs.drop 0).take (j - 0))) ++ ((s.legs.drop (j + 1)).take (s.legs.length - (j + 1))) = s.legs.eraseIdx j := by
      rw [List.eraseIdx_eq_take_drop_succ, List.nil_append, List.drop_zero, Nat.sub_zero, List.take_of_length_le (l := s.legs.drop (j + 1)) (by simp)]
    rw [el, show (⟨s.st, s.legs.eraseIdx j⟩ : Survey) = eraseS s j from rfl]
    have sb : ∀ q, q ≤ s.legs.length → 0 ≤ sm q (fun k => tws s (k : Int)) ∧ sm q (fun k => tws s (k : Int)) ≤ 512 * (q : Int) := by
      intro q
      induction q with
      | zero => intro _; simp [sm]
      | succ q ih =>
        intro hq
        have h1 := ih (by omega)
        have h2 := tws_bd ok (k := q) (by omega)
        have h3 : tws s (q : Int) = tm s - tm (eraseS s q) := by
          have hin : inLg s (q : Int) = true := by unfold inLg; rw [decide_eq_true (by omega), decide_eq_true (by omega)]; rfl
          unfold tws; rw [surveyOk_iff.2 ok, hin, Bool.and_self, if_pos rfl, Int.toNat_natCast]
        show 0 ≤ sm q (fun k => tws s (k : Int)) + tws s (q : Int) ∧ sm q (fun k => tws s (k : Int)) + tws s (q : Int) ≤ 512 * ((q + 1 : Nat) : Int)
        omega
    rw [loop_to (B := p_laws_FnTreesWith_L0 s) (fun q => (sm q (fun k => tws s (k : Int)), (q : Int))) s.legs.length (by rfl) (e := (mS s : Int) * tm s) (fun q hq => by
      simp only [p_laws_FnTreesWith_L0]
      have b := sb (q + 1) (by omega)
      have e1 : sm (q + 1) (fun k => tws s (k : Int)) = sm q (fun k => tws s (k : Int)) + tws s (q : Int) := rfl
      rw [decide_eq_true (by omega), show (⟨s.st, s.legs⟩ : Survey) = s from rfl, l_implTreesWith (by omega), w64_succ (by omega)]
      simp only [cond_true, Option.bind_some]
      rw [← e1, w64_i (by omega)]) (by
      simp only [p_laws_FnTreesWith_L0]
      rw [decide_eq_false (by omega), tws_sum ok]; rfl)]
    simp only [Option.bind_some]
    have he := List.length_eraseIdx_le s.legs j
    rw [l_implTreesMany (by omega), l_implTreesMany (by unfold eraseS; simp only; omega)]
    simp only [Option.bind_some]
    have b1 := tm_le (s := s)
    have b0 := tm_nonneg ok
    have hmS : (mS s : Int) = s.st - 1 := by unfold mS; omega
    rw [w64_i (x := tm s - tm (eraseS s j)) (by omega), w64_i (x := s.st - 1) (by omega), ← hmS]
    simp only [beq_self_eq_true, cond_true]
    have hmul : 0 ≤ (mS s : Int) * tm s ∧ (mS s : Int) * tm s ≤ 5 * 512 := ⟨Int.mul_nonneg (by omega) b0, Int.mul_le_mul (by omega) b1 b0 (by omega)⟩
    rw [w64_i (by omega)]
    exact Tot.ret (by simp)
  · have : tws s k = -1 := by unfold tws; rw [if_neg hb]
    rw [this, l_alive]; exact Tot.ret rfl
end Go.Proofs.YtnibfmofkamjoaaDoor
