/- The law of the trees of a mine, as a plain program; no condition. -/
import Derived.Test.YtpfijnklnljccaaDoorLm
import Derived.Test.YtpfijnklnljccaaDoorLu
import Derived.Test.YtpfijnklnljccaaDoorLg
import Derived.Test.YtpfijnklnljccaaDoorQ3AirTrees
namespace Go.Proofs.YtpfijnklnljccaaDoor
open Go
set_option linter.unusedVariables false
set_option linter.unusedSimpArgs false

theorem t_drawAirTrees {code : List UInt8} : Tot (p_spec_DrawAirTrees code) fun m => m.aw.length ≤ 15 ∧ 0 ≤ m.p ∧ m.p ≤ 6 := by
  unfold p_spec_DrawAirTrees
  obtain ⟨b, hb, hl⟩ := l_bopen (code := code)
  rw [hb]; simp only [Option.bind_some]
  refine Tot.bind (t_mine hl (by omega) (by omega)) fun ⟨m, q⟩ h => Tot.ret ?_
  exact h.2.2
def prow (m : Mine) (row : List Int) : Int := lprod (wdt m row)
theorem prow_bd {m : Mine} (ok : MineOk m) : ∀ x ∈ (TA (sM m)).map (prow m), 0 ≤ x ∧ x ≤ 279936 := by
  intro x hx
  rw [List.mem_map] at hx
  obtain ⟨row, hr, rfl⟩ := hx
  obtain ⟨j, hj, rfl⟩ := mem_gx hr
  obtain ⟨t, ht⟩ := TA_row ok hj
  rw [ht]
  have := wdt_all ok (t := t)
  unfold prow; omega
theorem tr_sum {m : Mine} (ok : MineOk m) : lsum ((TA (sM m)).map (prow m)) = tr m := by
  rw [TA_sM ok, List.map_map]
  unfold tsets tr
  rw [lsum_sets, sM_len, if_pos (mineOk_iff.2 ok), D_ts (mine_in ok), ts_sets, eM_len]
  refine sm_congr fun t ht => ?_
  rw [tset_sM]
  simp only [Function.comp, prow, wdt_pk, Int.mul_one]
theorem l_lawProd {m : Mine} (ok : MineOk m) {k : Nat} (hk : k < (TA (sM m)).length) : loop (p_laws_FnAirTrees_L2 m (TA (sM m)) (k : Int)) (1, 0) = some (.inl (lprod (wdt m (gx (TA (sM m)) k)))) := by
  obtain ⟨t, ht⟩ := TA_row ok hk
  have n7 := ok.n7
  have hle := ixI_len (n := m.aw.length) (s := t)
  have hwl : (wdt m (ixI m.aw.length t)).length = (ixI m.aw.length t).length := by simp [wdt]
  rw [loop_to (B := p_laws_FnAirTrees_L2 m (TA (sM m)) (k : Int)) (fun j => (lprod ((wdt m (ixI m.aw.length t)).take j), (j : Int))) (ixI m.aw.length t).length (by rfl) (e := .inl (lprod (wdt m (gx (TA (sM m)) k)))) (fun j hj => by
    simp only [p_laws_FnAirTrees_L2]
    obtain ⟨i, hi, hil, _⟩ := ixI_mem hj
    have := wdt_step ok hj
    rw [hi, Int.toNat_natCast] at this
    rw [idx_at hk, ht, decide_eq_true (by omega), idx_at hj, hi, decide_eq_false (p := (i : Int) < 0) (by omega), decide_eq_false (by omega)]
    simp only [cond_true, cond_false, Option.bind_some]
    rw [idx_at hk, ht, idx_at hj, hi, idx_at hil, w64_succ (by omega), this]) (by
    simp only [p_laws_FnAirTrees_L2]
    rw [idx_at hk, ht, decide_eq_false (by omega), ← hwl, List.take_length]; rfl)]
theorem l_FnAirTrees {code : List UInt8} : p_laws_FnAirTrees code = some true := by
  refine Tot.get ?_
  unfold p_laws_FnAirTrees
  refine Tot.condd (fun _ => Tot.ret rfl) (fun _ => ?_)
  refine Tot.bind t_drawAirTrees fun m ⟨hm, hp0, hp6⟩ => ?_
  rw [show (⟨m.p, m.aw⟩ : Mine) = m from rfl, l_implAirTrees (by omega), l_specAirTrees (by omega) (by omega)]
  simp only [Option.bind_some, bne_self_eq_false, cond_false]
  cases hv : mineOk m with
  | false =>
    have : tr m = -1 := by unfold tr; rw [hv]; rfl
    rw [this, l_alive]; exact Tot.ret rfl
  | true =>
    have ok := mineOk_iff.1 hv
    have n7 := ok.n7
    have t0 := tr_nonneg ok
    have t1 := tr_le (m := m)
    rw [decide_eq_false (by omega)]
    simp only [cond_false]
    rw [loop_to (B := p_laws_FnAirTrees_L0 m) (fun k => ((k : Int), (sM m).legs.take k)) m.aw.length (by rfl) (e := (sM m).legs) (fun k hk => by
      simp only [p_laws_FnAirTrees_L0]
      rw [decide_eq_true (by omega), idx_at hk, need_of (by simp [sM_len]; omega), w64_succ (by omega), take_gx (by rw [sM_len]; exact hk), sM_gx hk]; rfl) (by
      simp only [p_laws_FnAirTrees_L0]
      rw [decide_eq_false (by omega), List.take_of_length_le (by rw [sM_len]; omega)]; rfl)]
    simp only [Option.bind_some]
    rw [show (⟨m.p, (sM m).legs⟩ : Survey) = sM m from rfl, l_implTreesAll (by rw [sM_len]; omega), Option.bind_some]
    have hTl := TA_len (sM_ok ok)
    have hml : ((TA (sM m)).map (prow m)).length = (TA (sM m)).length := by simp
    rw [loop_to (B := p_laws_FnAirTrees_L1 m (TA (sM m))) (fun q => (lsum (((TA (sM m)).map (prow m)).take q), (q : Int))) (TA (sM m)).length (by rfl) (e := .inl (lsum ((TA (sM m)).map (prow m)))) (fun q hq => by
      simp only [p_laws_FnAirTrees_L1]
      have hs := sum_step (l := (TA (sM m)).map (prow m)) (by omega) (prow_bd ok) (k := q) (by omega)
      rw [gx_of_map hq] at hs
      rw [decide_eq_true (by omega), l_lawProd ok hq]
      simp only [cond_true, Option.bind_some]
      rw [w64_succ (by omega), ← hs]; rfl) (by
      simp only [p_laws_FnAirTrees_L1]
      rw [decide_eq_false (by omega), ← hml, List.take_length]; rfl)]
    simp only [Option.bind_some]
    rw [loop_all (B := p_laws_FnAirTrees_L3 m (tr m)) (fun _ => true) m.aw.length false (fun k hk => by
      simp only [p_laws_FnAirTrees_L3]
      rw [show (⟨m.p, m.aw⟩ : Mine) = m from rfl, l_implWiden (by omega), decide_eq_true (by omega), w64_succ (by omega)]
      simp only [cond_true, Option.bind_some]
      unfold wide
      by_cases hc : canW m (k : Int) = true
      · rw [if_pos hc]
        have ok2 := wid_ok hc
        have hl : (wid m (k : Int)).aw.length = m.aw.length := by unfold wid; simp
        simp only
        rw [l_implAirTrees (by simp only; omega), show (⟨(wid m (k : Int)).p, (wid m (k : Int)).aw⟩ : Mine) = wid m (k : Int) from rfl, Option.bind_some, idx_at hk, l_implAirTreesWith (by omega), Option.bind_some]
        have a := ok.aw k hk
        have f0 := a.f0; have f1 := a.f1; have tt0 := a.t0; have tt1 := a.t1; have w1 := a.w1; have w6 := a.w6
        have e1 : tr (wid m (k : Int)) - tr m = rs (mm m) (eM m) (gx m.aw k).f.toNat (gx m.aw k).t.toNat := by
          unfold tr
          rw [if_pos (mineOk_iff.2 ok), if_pos (mineOk_iff.2 ok2)]
          have e : mm (wid m (k : Int)) = mm m := rfl
          have h := D_more (m := mm m) (E := eM m) (E' := eM (wid m (k : Int))) (e := gx (eM m) k) (c := 1) (in_gx (mine_in ok) (by rw [eM_len]; exact hk)) (fun u v => by rw [lap_wid hk, Int.one_mul])
          rw [e, h, eM_gx hk]
          simp only [eA]
          rw [rs_turn (by unfold mm; omega) (by unfold mm; omega)]; omega
        have e2 := twk_rs ok hk
        have u1 := tr_le (m := wid m (k : Int))
        have u0 := tr_nonneg ok2
        have b1 : -823543 ≤ tr (wid m (k : Int)) - tr m ∧ tr (wid m (k : Int)) - tr m ≤ 823543 := by omega
        have hb : -4941258 ≤ (tr (wid m (k : Int)) - tr m) * (gx m.aw k).w ∧ (tr (wid m (k : Int)) - tr m) * (gx m.aw k).w ≤ 4941258 := by
          rcases (show (gx m.aw k).w = 1 ∨ (gx m.aw k).w = 2 ∨ (gx m.aw k).w = 3 ∨ (gx m.aw k).w = 4 ∨ (gx m.aw k).w = 5 ∨ (gx m.aw k).w = 6 by omega) with h | h | h | h | h | h <;> rw [h] <;> omega
        rw [w64_in (x := tr (wid m (k : Int)) - tr m) (by omega) (by omega), w64_in (x := (tr (wid m (k : Int)) - tr m) * (gx m.aw k).w) (Int.le_trans (by decide) hb.1) (Int.le_trans hb.2 (by decide)), e1, e2, Int.mul_comm]
        simp only [bne_self_eq_false, cond_false, cond_true]
      · rw [if_neg hc]; rfl) (by
      simp only [p_laws_FnAirTrees_L3]
      rw [decide_eq_false (by omega)]; rfl)]
    rw [show (List.range m.aw.length).all (fun _ => true) = true by simp]
    simp only [cond_true, Option.bind_some]
    rw [tr_sum ok]
    exact Tot.ret (by simp)
end Go.Proofs.YtpfijnklnljccaaDoor
