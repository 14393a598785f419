/- The law of the places that a tree tells, as a plain program; no condition. -/
import Derived.Test.YtnibfmofkamjoaaDoorZLt
import Derived.Test.YtnibfmofkamjoaaDoorZLs
import Derived.Test.YtnibfmofkamjoaaDoorZQ
namespace Go.Proofs.YtnibfmofkamjoaaDoor
open Go
set_option linter.unusedVariables false
set_option linter.unusedSimpArgs false

theorem t_drawTreeFix {code : List UInt8} : Tot (p_spec_DrawTreeFix code) fun r => r.1.legs.length ≤ 10 ∧ 0 ≤ r.1.st ∧ r.1.st ≤ 7 ∧ r.2.length ≤ 10 := by
  unfold p_spec_DrawTreeFix
  obtain ⟨b, hb, hl⟩ := x_bopen (code := code)
  rw [hb]; simp only [Option.bind_some]
  refine Tot.bind (t_linked hl (by omega) (by omega)) fun ⟨s, q⟩ h => ?_
  simp only at h ⊢
  have hT := TA_len (s := s)
  rw [show (⟨s.st, s.legs⟩ : Survey) = s from rfl, l_specTreesAll (by omega)]
  simp only [Option.bind_some]
  refine Tot.bind (R := fun r => (r.1 = true → 0 < (TA s).length) ∧ q ≤ r.2 ∧ r.2 ≤ q + 10) ?_ fun ⟨x, q2⟩ h2 => ?_
  · refine Tot.condd (fun h3 => ?_) (fun _ => Tot.ret ⟨fun h => (by cases h), by simp only; omega, by simp only; omega⟩)
    refine Tot.bind (x_pick hl (by omega) (by omega)) fun ⟨v, q3⟩ h4 => Tot.ret ?_
    simp only at h4 ⊢
    exact ⟨fun _ => by omega, by omega, by omega⟩
  simp only at h2 ⊢
  refine Tot.cond (fun hx => ?_) (fun _ => ?_)
  · have := h2.1 hx
    refine Tot.bind (x_pick hl (by omega) (by omega)) fun ⟨v, q3⟩ h4 => ?_
    simp only at h4 ⊢
    refine Tot.idx (by omega) fun j ej hj => Tot.ret ?_
    simp only
    refine ⟨h.2.2.1, h.2.2.2.1, h.2.2.2.2, ?_⟩
    cases hv : surveyOk s with
    | false => unfold TA at hj; rw [hv] at hj; simp at hj
    | true => have := TA_small (surveyOk_iff.1 hv) hj; omega
  · refine Tot.bind (x_pick hl (by omega) (by omega)) fun ⟨v, q3⟩ h4 => Tot.ret ?_
    simp only [List.length_cons, List.length_nil]
    exact ⟨h.2.2.1, h.2.2.2.1, h.2.2.2.2, by omega⟩
theorem tf_fix {s : Survey} {t : Nat} (ok : SurveyOk s) (h : tset s t = true) : fixOk s ⟨1, tfW s (ixI s.legs.length t)⟩ = true := by
  have p1 := ok.p1
  unfold fixOk
  have hl : ((tfW s (ixI s.legs.length t)).length : Int) = s.st := by rw [tfW_len]; unfold mS; omega
  have hz : z1 (gx (tfW s (ixI s.legs.length t)) 0) = true := by rw [tfW_gx (by omega), yT_zero h, yT_zero h, yT_zero h]; rfl
  simp only
  rw [surveyOk_iff.2 ok, decide_eq_true (show (1 : Int) ≤ 1 by omega), decide_eq_true (show (1 : Int) ≤ 999 by omega), decide_eq_true hl, hz]
  simp only [Bool.true_and, List.all_eq_true, List.mem_range]
  intro k hk
  rw [tfW_len] at hk
  rw [tfW_gx hk]
  have b1 := yT_bd ok dir0_e h (show k ≤ mS s by omega)
  have b2 := yT_bd ok dir0_n h (show k ≤ mS s by omega)
  have b3 := yT_bd ok dir0_u h (show k ≤ mS s by omega)
  simp only [wayB, wi, Bool.and_eq_true, decide_eq_true_eq]
  exact ⟨by omega, by omega, by omega⟩
theorem tf_leg {s : Survey} {t j : Nat} (ok : SurveyOk s) (h : tset s t = true) (hj : j < s.legs.length) (hm : (j : Int) ∈ ixI s.legs.length t) : fmw s ⟨1, tfW s (ixI s.legs.length t)⟩ j = ⟨0, 0, 0⟩ := by
  have a := leg_in ok hj
  have e1 := yT_leg (c := Leg.e) h hm
  have e2 := yT_leg (c := Leg.n) h hm
  have e3 := yT_leg (c := Leg.u) h hm
  simp only [Int.toNat_natCast] at e1 e2 e3
  unfold fmw fmc
  simp only
  rw [tfW_gx (by omega), tfW_gx (by omega)]
  simp only
  rw [show 1 * (gx s.legs j).e + yT s Leg.e (ixI s.legs.length t) (gx s.legs j).f.toNat - yT s Leg.e (ixI s.legs.length t) (gx s.legs j).t.toNat = 0 by omega,
    show 1 * (gx s.legs j).n + yT s Leg.n (ixI s.legs.length t) (gx s.legs j).f.toNat - yT s Leg.n (ixI s.legs.length t) (gx s.legs j).t.toNat = 0 by omega,
    show 1 * (gx s.legs j).u + yT s Leg.u (ixI s.legs.length t) (gx s.legs j).f.toNat - yT s Leg.u (ixI s.legs.length t) (gx s.legs j).t.toNat = 0 by omega]
theorem mul_bd4 {x d X D : Int} (h : 0 ≤ x ∧ x ≤ X) (g : 0 ≤ d ∧ d ≤ D) : 0 ≤ x * d ∧ x * d ≤ X * D :=
  ⟨Int.mul_nonneg h.1 g.1, Int.mul_le_mul h.2 g.2 g.1 (by omega)⟩
theorem l_FnTreeFix {code : List UInt8} : p_laws_FnTreeFix code = some true := by
  refine Tot.get ?_
  unfold p_laws_FnTreeFix
  refine Tot.condd (fun _ => Tot.ret rfl) (fun _ => ?_)
  refine Tot.bind t_drawTreeFix fun ⟨s, tree⟩ ⟨hm, hp0, hp7, hn⟩ => ?_
  simp only at hm hp0 hp7 hn ⊢
  rw [show (⟨s.st, s.legs⟩ : Survey) = s from rfl, l_implTreeFix (by omega) (by omega), l_specTreeFix (by omega) (by omega)]
  simp only [Option.bind_some]
  have hts : (tfix s tree).1.nums.length ≤ 4611686018427387904 := by
    unfold tfix
    split
    · show (tfW s tree).length ≤ _
      rw [tfW_len]; unfold mS; omega
    · simp
  rw [l_sameFixSelf (by simpa using hts)]
  simp only [Option.bind_some, beq_self_eq_true, Bool.not_true, cond_false]
  cases hb : surveyOk s && isTreeB s tree with
  | false =>
    rw [tfix_no hb, l_alive]
    exact Tot.ret rfl
  | true =>
    have et : tfix s tree = (⟨1, tfW s tree⟩, true) := by unfold tfix; rw [hb]; rfl
    rw [et]
    rw [Bool.and_eq_true] at hb
    have ok := surveyOk_iff.1 hb.1
    have p1 := ok.p1; have p6 := ok.p6; have n9 := ok.n9
    have hmem := (tree_mem ok).1 hb.2
    obtain ⟨t, ht2, hts2, rfl⟩ := tree_set ok hb.2
    have hg := tf_fix ok hts2
    simp only [Bool.not_true, cond_false]
    rw [loop_all (B := p_laws_FnTreeFix_L0 s (ixI s.legs.length t) ⟨1, tfW s (ixI s.legs.length t)⟩) (fun _ => true) (ixI s.legs.length t).length false (fun k hk => by
      simp only [p_laws_FnTreeFix_L0]
      obtain ⟨j, e1, e2, e3⟩ := ixI_mem hk
      rw [decide_eq_true (by omega), idx_at hk, show (⟨s.st, s.legs⟩ : Survey) = s from rfl, l_implFixMiss (by omega), e1, fmiss_at hg e2, tf_leg ok hts2 e2 (by rw [← e1]; exact gx_mem hk), w64_succ (by omega)]
      rfl) (by
      simp only [p_laws_FnTreeFix_L0]
      rw [decide_eq_false (by omega)]; rfl)]
    have e : (List.range (ixI s.legs.length t).length).all (fun _ => true) = true := by simp
    rw [e]
    have ha : adjOk s = true := by
      unfold adjOk
      rw [surveyOk_iff.2 ok, TA_one ok, decide_eq_false (fun h => by rw [List.length_eq_zero_iff.1 h] at hmem; cases hmem)]; rfl
    have hA := adj_fix ha
    have lsq := fsum_lsq (f := ⟨1, tfW s (ixI s.legs.length t)⟩) ha
    have zn := fZ_nonneg (s := s) (f := ⟨1, tfW s (ixI s.legs.length t)⟩)
    rw [adj_eq ha] at hA lsq
    simp only [cond_true, Option.bind_some]
    rw [l_implAdjust (by omega), adj_eq ha, l_implFixValid (by omega), hg]
    simp only [Option.bind_some, cond_true] at hA lsq ⊢
    rw [l_implFixSum (by omega), l_implFixSum (by omega)]
    have e2 : fixSum s ⟨tm s, wsA s⟩ = fsum s ⟨tm s, wsA s⟩ := by unfold fixSum; rw [hA]; rfl
    have e3 : fixSum s ⟨1, tfW s (ixI s.legs.length t)⟩ = fsum s ⟨1, tfW s (ixI s.legs.length t)⟩ := by unfold fixSum; rw [hg]; rfl
    rw [e2, e3]
    have xb := fsum_bd (fixOk_to hg)
    have tp := tm_pos ha
    have tl := tm_le (s := s)
    generalize fsum s ⟨tm s, wsA s⟩ = L at *
    generalize fsum s ⟨1, tfW s (ixI s.legs.length t)⟩ = X at *
    generalize tm s = T at *
    generalize fZ s ⟨1, tfW s (ixI s.legs.length t)⟩ = Z at *
    have m3 := mul_bd4 xb (show 0 ≤ T ∧ T ≤ 999 by omega)
    have m4 := mul_bd4 m3 (show 0 ≤ T ∧ T ≤ 999 by omega)
    have q2 : X * T * T = T * T * X := by rw [Int.mul_assoc, Int.mul_comm]
    simp only [Option.bind_some]
    rw [w64_i (x := X * T) (by omega), w64_i (x := X * T * T) (by omega), decide_eq_true (by omega)]
    exact Tot.ret rfl
end Go.Proofs.YtnibfmofkamjoaaDoor
