/- The law of the adjusted survey, as a plain program; no condition. -/
import Derived.Test.YtnibfmofkamjoaaDoorZL6
import Derived.Test.YtnibfmofkamjoaaDoorZLs
import Derived.Test.YtnibfmofkamjoaaDoorZQ
namespace Go.Proofs.YtnibfmofkamjoaaDoor
open Go
set_option linter.unusedVariables false
set_option linter.unusedSimpArgs false

theorem t_drawAdjust {code : List UInt8} : Tot (p_spec_DrawAdjust code) fun r => r.legs.length ≤ 10 ∧ 0 ≤ r.st ∧ r.st ≤ 7 := by
  unfold p_spec_DrawAdjust
  obtain ⟨b, hb, hl⟩ := x_bopen (code := code)
  rw [hb]; simp only [Option.bind_some]
  refine Tot.bind (t_linked hl (by omega) (by omega)) fun ⟨s, q⟩ h => Tot.ret ?_
  simp only at h ⊢
  exact h.2.2
/-- What is missed at a station, leg by leg. -/
def stS (s : Survey) (c : Leg → Int) (v k : Nat) : Int := sm k fun j => xv (eL c (gx s.legs j)) v * mis s (tm s) (pA s c) c j
theorem stS_step {s : Survey} {c : Leg → Int} {v k x y : Nat} (hx : (gx s.legs k).f = (x : Int)) (hy : (gx s.legs k).t = (y : Int)) (ne : x ≠ y) :
    stS s c v (k + 1) = if y = v then stS s c v k + mis s (tm s) (pA s c) c k else if x = v then stS s c v k + mis s (tm s) (pA s c) c k * (-1) else stS s c v k := by
  show stS s c v k + xv (eL c (gx s.legs k)) v * mis s (tm s) (pA s c) c k = _
  have : xv (eL c (gx s.legs k)) v = (if y = v then 1 else 0) - (if x = v then 1 else 0) := by
    unfold xv eL
    simp only [hx, hy, Int.toNat_natCast]
  rw [this]
  by_cases h1 : y = v
  · rw [if_pos h1, if_neg (by omega), if_pos h1]; omega
  · rw [if_neg h1, if_neg h1]
    by_cases h2 : x = v
    · rw [if_pos h2, if_pos h2]; omega
    · rw [if_neg h2, if_neg h2]; omega
theorem fmc_adj {s : Survey} {k : Nat} (ok : SurveyOk s) (hk : k < s.legs.length) : fmw s ⟨tm s, wsA s⟩ k = ⟨mis s (tm s) (pA s Leg.e) Leg.e k, mis s (tm s) (pA s Leg.n) Leg.n k, mis s (tm s) (pA s Leg.u) Leg.u k⟩ := by
  have e1 : fmc s ⟨tm s, wsA s⟩ Leg.e Way.e k = mis s (tm s) (pA s Leg.e) Leg.e k := mis_congr (y := fun v => (gx (wsA s) v).e) ok hk (fun v hv => by rw [wsA_gx (by omega)])
  have e2 : fmc s ⟨tm s, wsA s⟩ Leg.n Way.n k = mis s (tm s) (pA s Leg.n) Leg.n k := mis_congr (y := fun v => (gx (wsA s) v).n) ok hk (fun v hv => by rw [wsA_gx (by omega)])
  have e3 : fmc s ⟨tm s, wsA s⟩ Leg.u Way.u k = mis s (tm s) (pA s Leg.u) Leg.u k := mis_congr (y := fun v => (gx (wsA s) v).u) ok hk (fun v hv => by rw [wsA_gx (by omega)])
  unfold fmw
  rw [e1, e2, e3]
theorem l_stationLoop {s : Survey} {v : Nat} (ha : adjOk s = true) (hv : v ≤ mS s) : loop (p_laws_FnAdjust_L1 s ⟨tm s, wsA s⟩ (v : Int)) (0, 0, 0, 0) = some (0, 0, 0) := by
  obtain ⟨ok, h1⟩ := adj_one ha
  have n9 := ok.n9
  have hg := adj_fix ha
  rw [adj_eq ha] at hg
  have hf := fixOk_to hg
  have h0 : w64 0 = 0 := w64_i (by omega)
  rw [loop_to (B := p_laws_FnAdjust_L1 s ⟨tm s, wsA s⟩ (v : Int)) (fun k => ((k : Int), w64 (stS s Leg.e v k), w64 (stS s Leg.n v k), w64 (stS s Leg.u v k))) s.legs.length (by
    show _ = ((0 : Int), w64 0, w64 0, w64 0)
    rw [h0]) (e := (0, 0, 0)) (fun k hk => by
    have a := ok.lg k hk
    obtain ⟨x, hx⟩ := Int.eq_ofNat_of_zero_le a.f0
    obtain ⟨y, hy⟩ := Int.eq_ofNat_of_zero_le a.t0
    have ne := a.ne
    rw [hx, hy] at ne
    have ne2 : x ≠ y := by omega
    have m1 := mis_bd hf dir_e hf.e hk
    have m2 := mis_bd hf dir_n hf.n hk
    have m3 := mis_bd hf dir_u hf.u hk
    rw [mis_congr (z := pA s Leg.e) ok hk (fun v hv => by rw [wsA_gx (by omega)])] at m1
    rw [mis_congr (z := pA s Leg.n) ok hk (fun v hv => by rw [wsA_gx (by omega)])] at m2
    rw [mis_congr (z := pA s Leg.u) ok hk (fun v hv => by rw [wsA_gx (by omega)])] at m3
    simp only at m1 m2 m3
    simp only [p_laws_FnAdjust_L1]
    rw [decide_eq_true (by omega), show (⟨s.st, s.legs⟩ : Survey) = s from rfl, l_implFixMiss (by omega), fmiss_at hg hk, fmc_adj ok hk, w64_succ (by omega), stS_step hx hy ne2, stS_step hx hy ne2, stS_step hx hy ne2]
    simp only [cond_true, Option.bind_some]
    rw [idx_at hk, hy, beq_dec]
    have add : ∀ (S m : Int), -300000 ≤ m ∧ m ≤ 300000 → w64 (w64 S + m) = w64 (S + m) := fun S m hm => by
      have := w64_add2 S m
      rw [w64_i (x := m) (by omega)] at this; exact this
    by_cases hyv : y = v
    · rw [decide_eq_true (show (y : Int) = (v : Int) by omega)]
      simp only [cond_true, p_impl_WayAdd, Option.bind_some, if_pos hyv]
      rw [idx_at hk, hx, beq_dec, decide_eq_false (show ¬ (x : Int) = (v : Int) by omega), add _ _ m1, add _ _ m2, add _ _ m3]; rfl
    · rw [decide_eq_false (show ¬ (y : Int) = (v : Int) by omega)]
      simp only [cond_false, Option.bind_some, if_neg hyv]
      rw [idx_at hk, hx, beq_dec]
      by_cases hxv : x = v
      · rw [decide_eq_true (show (x : Int) = (v : Int) by omega)]
        simp only [cond_true, p_impl_WayAdd, p_impl_WayTimes, Option.bind_some, if_pos hxv, w64_add2]
      · rw [decide_eq_false (show ¬ (x : Int) = (v : Int) by omega)]
        simp only [cond_false, if_neg hxv]) (by
    simp only [p_laws_FnAdjust_L1]
    have e1 : stS s Leg.e v s.legs.length = 0 := mis_even ha hv
    have e2 : stS s Leg.n v s.legs.length = 0 := mis_even ha hv
    have e3 : stS s Leg.u v s.legs.length = 0 := mis_even ha hv
    rw [decide_eq_false (by omega), e1, e2, e3, h0]; rfl)]
theorem l_FnAdjust {code : List UInt8} : p_laws_FnAdjust code = some true := by
  refine Tot.get ?_
  unfold p_laws_FnAdjust
  refine Tot.condd (fun _ => Tot.ret rfl) (fun _ => ?_)
  refine Tot.bind t_drawAdjust fun s ⟨hm, hp0, hp7⟩ => ?_
  rw [show (⟨s.st, s.legs⟩ : Survey) = s from rfl, l_implAdjust (by omega), l_specAdjust (by omega)]
  simp only [Option.bind_some]
  have hsm := adj_small (s := s) hp7
  rw [l_sameFixSelf (by simp only; omega)]
  simp only [Option.bind_some, beq_self_eq_true, Bool.not_true, cond_false]
  cases ha : adjOk s with
  | false =>
    have : adj s = (⟨0, []⟩, false) := by unfold adj; rw [ha]; rfl
    rw [this, l_implSurveyValid (by omega), l_implPartsMany (by omega), l_alive]
    simp only [Bool.not_false, cond_true, Option.bind_some]
    unfold adjOk at ha
    cases hv : surveyOk s with
    | false => exact Tot.ret rfl
    | true =>
      rw [hv, Bool.true_and] at ha
      simp only [Bool.not_true, cond_false, bne, ha]
      exact Tot.ret rfl
  | true =>
    obtain ⟨ok, h1⟩ := adj_one ha
    have p1 := ok.p1; have p6 := ok.p6
    have hg := adj_fix ha
    have hc := clsB_iff ha
    have lb := fsum_bd (fixOk_to hg)
    rw [adj_eq ha] at hg hc lb
    rw [adj_eq ha]
    simp only [Bool.not_true, cond_false] at hg hc lb ⊢
    rw [loop_all (B := p_laws_FnAdjust_L0 s ⟨tm s, wsA s⟩) (fun _ => true) s.st.toNat false (fun k hk => by
      simp only [p_laws_FnAdjust_L0]
      rw [decide_eq_true (by omega), l_stationLoop ha (by unfold mS; omega), w64_succ (by omega)]; rfl) (by
      simp only [p_laws_FnAdjust_L0]
      rw [decide_eq_false (by omega)]; rfl)]
    have e : (List.range s.st.toNat).all (fun _ => true) = true := by simp
    rw [e]
    simp only [cond_true, Option.bind_some]
    rw [l_implTreesMany (by omega), l_implFixSum (by omega), l_implCloses (by omega)]
    simp only [Option.bind_some, beq_self_eq_true, cond_true]
    have e2 : fixSum s ⟨tm s, wsA s⟩ = fsum s ⟨tm s, wsA s⟩ := by unfold fixSum; rw [hg]; rfl
    rw [e2]
    refine Tot.ret ?_
    rw [beq_iff_eq, Bool.eq_iff_iff, beq_iff_eq, hc]
end Go.Proofs.YtnibfmofkamjoaaDoor
