/- The law of the trees with an airway, as a plain program; no condition. -/
import Derived.Test.YtpfijnklnljccaaDoorLm
import Derived.Test.YtpfijnklnljccaaDoorLo
import Derived.Test.YtpfijnklnljccaaDoorLu
import Derived.Test.YtpfijnklnljccaaDoorQ3AirTreesWith
namespace Go.Proofs.YtpfijnklnljccaaDoor
open Go
set_option linter.unusedVariables false
set_option linter.unusedSimpArgs false

theorem t_drawAirTreesWith {code : List UInt8} : Tot (p_spec_DrawAirTreesWith code) fun r => r.1.aw.length ≤ 15 ∧ 0 ≤ r.1.p ∧ r.1.p ≤ 6 := by
  unfold p_spec_DrawAirTreesWith
  obtain ⟨b, hb, hl⟩ := l_bopen (code := code)
  rw [hb]; simp only [Option.bind_some]
  refine Tot.bind (t_mine hl (by omega) (by omega)) fun ⟨m, q⟩ h => ?_
  simp only at h ⊢
  refine Tot.bind (t_airway hl (by omega) h.2.2.1) fun ⟨k, q⟩ h2 => Tot.ret ?_
  exact h.2.2
theorem conn_erase {m : Nat} {E : List Ed} {k : Nat} (h : Conn m (E.eraseIdx k)) : Conn m E := fun Q hQ => h Q fun e he => hQ e (List.mem_of_mem_eraseIdx he)
theorem l_FnAirTreesWith {code : List UInt8} : p_laws_FnAirTreesWith code = some true := by
  refine Tot.get ?_
  unfold p_laws_FnAirTreesWith
  refine Tot.condd (fun _ => Tot.ret rfl) (fun _ => ?_)
  refine Tot.bind t_drawAirTreesWith fun ⟨m, k⟩ ⟨hm, hp0, hp6⟩ => ?_
  simp only at hm hp0 hp6 ⊢
  rw [show (⟨m.p, m.aw⟩ : Mine) = m from rfl, l_implAirTreesWith (by omega), l_specAirTreesWith (by omega)]
  simp only [Option.bind_some, bne_self_eq_false, cond_false]
  by_cases hb : (mineOk m && inAw m k) = true
  · have hb' := hb
    rw [Bool.and_eq_true] at hb'
    have ok := mineOk_iff.1 hb'.1
    have hk := hb'.2
    unfold inAw at hk
    rw [Bool.and_eq_true, decide_eq_true_eq, decide_eq_true_eq] at hk
    obtain ⟨j, rfl⟩ := Int.eq_ofNat_of_zero_le hk.1
    have hj : j < m.aw.length := by omega
    have a := ok.aw j hj
    have f0 := a.f0; have f1 := a.f1; have t0 := a.t0; have t1 := a.t1; have w1 := a.w1
    have n7 := ok.n7
    have e := twk_rs ok hj
    by_cases hl : lnk m = true
    · have hc := (lnk_conn.1 hl).2
      have hp : prOk m (gx m.aw j).f (gx m.aw j).t = true := prOk_iff.2 ⟨ok, hc, f0, f1, t0, t1⟩
      have hr := rs_nonneg hc (mine_in ok) (mine_w ok) (a := (gx m.aw j).f.toNat) (b := (gx m.aw j).t.toNat) (by unfold mm; omega) (by unfold mm; omega)
      have hn : 0 ≤ twk m (j : Int) := by rw [e]; exact Int.mul_nonneg (by omega) hr
      rw [decide_eq_false (by omega)]
      simp only [cond_false]
      refine Tot.idx (by omega) fun i ei hi => ?_
      obtain rfl : i = j := by omega
      rw [l_implAirFlow (by omega)]
      unfold afs
      rw [if_pos hp]
      simp only [Option.bind_some, Bool.not_true, cond_false, cond_true, row1_len, beq_self_eq_true]
      refine Tot.idx (by omega) fun q eq hq => ?_
      obtain rfl : q = i := by omega
      rw [row1_gx hi]
      refine Tot.ret ?_
      rw [beq_iff_eq, e]
      unfold aflow air
      rw [eM_gx hi]; rfl
    · have hc : ¬ Conn (mm m) (eM m) := fun h => hl (lnk_conn.2 ⟨hb'.1, h⟩)
      have h0 : tr m = 0 := by
        have h1 := tr_nonneg ok
        have h2 : ¬ 0 < tr m := fun h => hl (tr_pos.1 h)
        omega
      have h0' : tr (eraseM m j) = 0 := by
        have h1 := tr_nonneg (erase_ok ok j)
        have h2 : ¬ 0 < tr (eraseM m j) := fun h => by
          have := (lnk_conn.1 (tr_pos.1 h)).2
          rw [eM_erase] at this
          exact hc (conn_erase this)
        omega
      have hz : twk m (j : Int) = 0 := by
        unfold twk; rw [if_pos hb, h0, Int.toNat_natCast, h0']; rfl
      rw [hz]
      simp only [Int.lt_irrefl, decide_false, cond_false]
      refine Tot.idx (by omega) fun i ei hi => ?_
      rw [l_implAirFlow (by omega)]
      have hp : ¬ prOk m (gx m.aw i).f (gx m.aw i).t = true := fun h => hc (prOk_iff.1 h).cn
      unfold afs
      rw [if_neg hp]
      simp only [Option.bind_some, Bool.not_false, cond_true, beq_self_eq_true]
      exact Tot.ret rfl
  · have : twk m k = -1 := by unfold twk; rw [if_neg hb]
    rw [this, l_alive]; exact Tot.ret rfl
end Go.Proofs.YtpfijnklnljccaaDoor
