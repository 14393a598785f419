/- The law of wider airways, as a plain program; no condition. -/
import Derived.Test.YtpfijnklnljccaaDoorLm
import Derived.Test.YtpfijnklnljccaaDoorLl
import Derived.Test.YtpfijnklnljccaaDoorLz
import Derived.Test.YtpfijnklnljccaaDoorQbc
import Derived.Test.YtpfijnklnljccaaDoorQbm
import Derived.Test.YtpfijnklnljccaaDoorQ3Widen
namespace Go.Proofs.YtpfijnklnljccaaDoor
open Go
set_option linter.unusedVariables false
set_option linter.unusedSimpArgs false

theorem l_sameMine {a b : Mine} (h : a.aw.length ≤ 4611686018427387904) : p_laws_sameMine a b = some (decide (a = b)) := by
  unfold p_laws_sameMine
  obtain ⟨p, l⟩ := a
  obtain ⟨p', l'⟩ := b
  replace h : l.length ≤ 4611686018427387904 := h
  simp only [bne_dec, Mine.mk.injEq]
  by_cases hp : p = p'
  · rw [decide_eq_true hp]
    by_cases e : l.length = l'.length
    · rw [loop_all (fun k => decide (gx l k = gx l' k)) l.length false (fun k hk => by
        simp only [p_laws_sameMine_L0]
        rw [decide_eq_true (by omega), idx_at hk, idx_at (by omega), w64_succ (by omega)]
        simp only [cond_true, beq_dec]
        have : (decide ((gx l k).f = (gx l' k).f) && decide ((gx l k).t = (gx l' k).t) && decide ((gx l k).w = (gx l' k).w)) = decide (gx l k = gx l' k) := by
          generalize gx l k = x; generalize gx l' k = y
          obtain ⟨a1, a2, a3⟩ := x; obtain ⟨b1, b2, b3⟩ := y
          simp only [Airway.mk.injEq, and_dec, and_assoc]
        rw [this]
        cases decide (gx l k = gx l' k) <;> rfl) (by simp only [p_laws_sameMine_L0]; rw [decide_eq_false (by omega)]; rfl), all_eq e, e]
      simp only [decide_true, Bool.not_true, cond_false, Option.bind_some, hp, true_and]
      cases decide (l = l') <;> rfl
    · have h1 : ¬ (p = p' ∧ l = l') := fun hh => e (by rw [hh.2])
      rw [decide_eq_false h1, decide_eq_false (p := ((l.length : Nat) : Int) = ((l'.length : Nat) : Int)) (by omega)]; rfl
  · have h1 : ¬ (p = p' ∧ l = l') := fun hh => hp hh.1
    rw [decide_eq_false hp, decide_eq_false h1]; rfl
theorem t_airway {b : List UInt8} {p : Int} {m : Mine} (hb : b.length ≤ 2000) (hp : 0 ≤ p ∧ p ≤ 100000) (hm : m.aw.length ≤ 15) : Tot (p_spec_l20Airway ⟨b, p⟩ m) fun r => p ≤ r.2 ∧ r.2 ≤ p + 10 ∧ -100 ≤ r.1 ∧ r.1 ≤ 100 := by
  simp only [p_spec_l20Airway]
  refine Tot.bind (t_pick hb (by omega) (by omega)) fun ⟨v5, v6⟩ h5 => ?_
  simp only at h5 ⊢
  refine Tot.bind (t_pick hb (by omega) (by omega)) fun ⟨v9, v10⟩ h9 => ?_
  simp only at h9 ⊢
  refine Tot.bind (t_pick hb (by omega) (by omega)) fun ⟨v13, v14⟩ h13 => ?_
  simp only at h13 ⊢
  have a1 : 0 ≤ Int.tdiv v9 19 := Int.tdiv_nonneg (by omega) (by omega)
  have a2 : Int.tdiv v9 19 ≤ 1 := by rw [Int.tdiv_eq_ediv_of_nonneg (by omega)]; omega
  have b1 : 0 ≤ Int.tdiv v13 19 := Int.tdiv_nonneg (by omega) (by omega)
  have b2 : Int.tdiv v13 19 ≤ 1 := by rw [Int.tdiv_eq_ediv_of_nonneg (by omega)]; omega
  refine Tot.ret ?_
  simp only
  rw [w64_i (x := Int.tdiv v9 19) (by omega), w64_i (x := Int.tdiv v13 19) (by omega), w64_i (x := Int.tdiv v9 19 * 8) (by omega), w64_i (x := Int.tdiv v13 19 * 9) (by omega), w64_i (x := v5 + Int.tdiv v9 19 * 8) (by omega), w64_i (by omega)]
  omega
theorem t_drawWiden {code : List UInt8} : Tot (p_spec_DrawWiden code) fun r => r.1.aw.length ≤ 15 ∧ 0 ≤ r.1.p ∧ r.1.p ≤ 6 := by
  unfold p_spec_DrawWiden
  obtain ⟨b, hb, hl⟩ := l_bopen (code := code)
  rw [hb]; simp only [Option.bind_some]
  refine Tot.bind (t_mine hl (by omega) (by omega)) fun ⟨m, q⟩ h => ?_
  simp only at h ⊢
  refine Tot.bind (t_airway hl (by omega) h.2.2.1) fun ⟨k, q⟩ h2 => Tot.ret ?_
  exact h.2.2
theorem wid_ab {m : Mine} {k : Int} (h : canW m k = true) : (eM (wid m k)).map (fun e => (e.a, e.b)) = (eM m).map (fun e => (e.a, e.b)) := by
  obtain ⟨h1, h2, h3, h4⟩ := canW_iff.1 h
  obtain ⟨j, rfl⟩ := Int.eq_ofNat_of_zero_le h2
  have hj : j < m.aw.length := by omega
  have hl : (wid m (j : Int)).aw.length = m.aw.length := by unfold wid; simp
  apply List.ext_getElem
  · simp [eM, hl]
  · intro i x1 x2
    have hi : i < m.aw.length := by simpa [eM] using x2
    simp only [eM, List.getElem_map]
    have e1 := wid_gx (m := m) (k := j) hi hj
    rw [gx_eq (by rw [hl]; exact hi), gx_eq (l := m.aw) hi, gx_eq (l := m.aw) hj] at e1
    rw [e1]
    split
    · rename_i hji; subst hji; rfl
    · rfl
theorem lnk_wid {m : Mine} {k : Int} (h : canW m k = true) : lnk (wid m k) = lnk m := by
  unfold lnk
  rw [mineOk_iff.2 (wid_ok h), (canW_iff.1 h).1, fj_ab (wid_ab h)]; rfl
theorem l_FnWiden {code : List UInt8} : p_laws_FnWiden code = some true := by
  refine Tot.get ?_
  unfold p_laws_FnWiden
  refine Tot.condd (fun _ => Tot.ret rfl) (fun _ => ?_)
  refine Tot.bind t_drawWiden fun ⟨m, k⟩ ⟨hm, hp0, hp6⟩ => ?_
  simp only at hm hp0 hp6 ⊢
  rw [show (⟨m.p, m.aw⟩ : Mine) = m from rfl, l_implWiden (by omega), l_specWiden (by omega)]
  simp only [Option.bind_some]
  unfold wide
  by_cases hc : canW m k = true
  · rw [if_pos hc]
    have hl : (wid m k).aw.length = m.aw.length := by unfold wid; simp
    simp only
    rw [show (⟨(wid m k).p, (wid m k).aw⟩ : Mine) = wid m k from rfl, l_sameMine (by omega)]
    simp only [Option.bind_some, decide_true, Bool.not_true, cond_false, beq_self_eq_true, List.nil_append]
    obtain ⟨h1, h2, h3, h4⟩ := canW_iff.1 hc
    have ok := mineOk_iff.1 h1
    have n7 := ok.n7
    refine Tot.need (by simp; omega) (Tot.idx (by omega) fun j ej hj => ?_)
    subst ej
    have hj' : j < m.aw.length := by omega
    rw [l_implMineValid (by omega), mineOk_iff.2 (wid_ok hc)]
    simp only [Option.bind_some, cond_true]
    have w1 := (ok.aw j hj').w1; have w6 := (ok.aw j hj').w6
    have ew : (gx (wid m (j : Int)).aw j).w = (gx m.aw j).w + 1 := by rw [wid_gx hj' hj', if_pos rfl]; rfl
    have eb : (⟨(wid m (j : Int)).p, (wid m (j : Int)).aw.set j { gx (wid m (j : Int)).aw j with w := w64 ((gx (wid m (j : Int)).aw j).w - 1) }⟩ : Mine) = m := by
      rw [ew, w64_i (by omega)]
      have e1 : (gx m.aw j).w + 1 - 1 = (gx m.aw j).w := by omega
      rw [e1, wid_gx hj' hj', if_pos rfl]
      unfold wid
      simp only [Int.toNat_natCast, List.set_set]
      have e2 : ({ wideA (gx m.aw j) with w := (gx m.aw j).w } : Airway) = gx m.aw j := rfl
      rw [e2, set_self rfl]
    rw [eb, l_sameMine (by omega), l_implAirLinked (by omega), l_implAirLinked (by omega), lnk_wid hc]
    simp only [Option.bind_some, decide_true, cond_true, beq_self_eq_true]
    exact Tot.ret rfl
  · rw [if_neg hc]
    simp only
    rw [l_sameMine (by simp), l_alive]
    exact Tot.ret rfl
end Go.Proofs.YtpfijnklnljccaaDoor
