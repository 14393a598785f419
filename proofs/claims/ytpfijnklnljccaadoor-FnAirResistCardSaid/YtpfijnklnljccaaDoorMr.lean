/- The law of resistances, as a plain program; no condition. -/
import Derived.Test.YtpfijnklnljccaaDoorLm
import Derived.Test.YtpfijnklnljccaaDoorLo
import Derived.Test.YtpfijnklnljccaaDoorLg
import Derived.Test.YtpfijnklnljccaaDoorLf
import Derived.Test.YtpfijnklnljccaaDoorQ3AirResist
namespace Go.Proofs.YtpfijnklnljccaaDoor
open Go
set_option linter.unusedVariables false
set_option linter.unusedSimpArgs false

theorem t_drawAirResist {code : List UInt8} : Tot (p_spec_DrawAirResist code) fun r => r.1.aw.length ≤ 15 ∧ 0 ≤ r.1.p ∧ r.1.p ≤ 6 := by
  unfold p_spec_DrawAirResist
  obtain ⟨b, hb, hl⟩ := l_bopen (code := code)
  rw [hb]; simp only [Option.bind_some]
  refine Tot.bind (t_blown hl (by omega)) fun ⟨m, q⟩ h => Tot.ret ?_
  exact h
theorem prOk_with {m : Mine} {a b c d : Int} (P : PrOk m a b) (hc : 0 ≤ c ∧ c < m.p) (hd : 0 ≤ d ∧ d < m.p) : prOk m c d = true := prOk_iff.2 ⟨P.ok, P.cn, hc.1, hc.2, hd.1, hd.2⟩
theorem ars_ok {m : Mine} {a b : Int} (h : prOk m a b = true) : ars m a b = (⟨rst m a b, tr m⟩, true) := by unfold ars; rw [if_pos h]
theorem rst_bd {m : Mine} {a b : Int} (P : PrOk m a b) : 0 ≤ rst m a b ∧ rst m a b ≤ 823543 := by
  have ok := P.ok
  have i0 := P.i0; have i1 := P.i1; have o0 := P.o0; have o1 := P.o1
  have hi : a.toNat ≤ mm m := by unfold mm; omega
  have ho : b.toNat ≤ mm m := by unfold mm; omega
  have h1 := rs_nonneg P.cn (mine_in ok) (mine_w ok) hi ho
  have h2 := pv_bd P _ _ hi ho
  unfold rst; exact ⟨h1, h2⟩
theorem wid_prOk {m : Mine} {a b k : Int} (P : PrOk m a b) (h : canW m k = true) : PrOk (wid m k) a b := by
  have hl : lnk (wid m k) = true := by rw [lnk_wid h, lnk_conn]; exact ⟨mineOk_iff.2 P.ok, P.cn⟩
  exact ⟨wid_ok h, (lnk_conn.1 hl).2, P.i0, P.i1, P.o0, P.o1⟩
theorem wid_mono {m : Mine} {a b k : Int} (P : PrOk m a b) (h : canW m k = true) : rst (wid m k) a b * tr m ≤ rst m a b * tr (wid m k) := by
  obtain ⟨h1, h2, h3, h4⟩ := canW_iff.1 h
  obtain ⟨j, rfl⟩ := Int.eq_ofNat_of_zero_le h2
  have hj : j < m.aw.length := by omega
  have P2 := wid_prOk P h
  have ok := P.ok; have ok2 := P2.ok
  have i0 := P.i0; have i1 := P.i1; have o0 := P.o0; have o1 := P.o1
  have hi : a.toNat ≤ mm m := by unfold mm; omega
  have ho : b.toNat ≤ mm m := by unfold mm; omega
  have := rs_mono (m := mm m) (E := eM m) (E' := eM (wid m (j : Int))) (e := gx (eM m) j) P.cn (mine_in ok) (mine_w ok) (mine_in ok2) ((D_pos (mine_in ok2) (mine_w ok2)).2 P2.cn) hi ho (in_gx (mine_in ok) (by rw [eM_len]; exact hj)) (fun u v => lap_wid hj)
  unfold tr rst
  rw [if_pos h1, if_pos (mineOk_iff.2 ok2)]
  exact this
theorem l_FnAirResist {code : List UInt8} : p_laws_FnAirResist code = some true := by
  refine Tot.get ?_
  unfold p_laws_FnAirResist
  refine Tot.condd (fun _ => Tot.ret rfl) (fun _ => ?_)
  refine Tot.bind t_drawAirResist fun ⟨m, a, b⟩ ⟨hm, hp0, hp6⟩ => ?_
  simp only at hm hp0 hp6 ⊢
  rw [show (⟨m.p, m.aw⟩ : Mine) = m from rfl, l_implAirResist (by omega), l_specAirResist (by omega) (by omega)]
  simp only [Option.bind_some, beq_self_eq_true, Bool.and_self, Bool.not_true, cond_false]
  by_cases hp : prOk m a b = true
  · rw [ars_ok hp]
    have P := prOk_iff.1 hp
    have ok := P.ok
    have i0 := P.i0; have i1 := P.i1; have o0 := P.o0; have o1 := P.o1
    have hi : a.toNat ≤ mm m := by unfold mm; omega
    have ho : b.toNat ≤ mm m := by unfold mm; omega
    have R := rst_bd P
    simp only [Bool.not_true, cond_false]
    rw [loop_all (B := p_laws_FnAirResist_L0 m a b ⟨rst m a b, tr m⟩) (fun _ => true) m.p.toNat false (fun k hk => by
      simp only [p_laws_FnAirResist_L0]
      have h1 := prOk_with P ⟨i0, i1⟩ (c := a) (d := (k : Int)) ⟨by omega, by omega⟩
      have h2 := prOk_with P (c := (k : Int)) (d := b) ⟨by omega, by omega⟩ ⟨o0, o1⟩
      have R1 := rst_bd (prOk_iff.1 h1)
      have R2 := rst_bd (prOk_iff.1 h2)
      have tri := rs_tri P.cn (mine_in ok) (mine_w ok) hi ho (c := k) (by unfold mm; omega)
      have e1 : rst m a b ≤ rst m a (k : Int) + rst m (k : Int) b := by unfold rst; simpa using tri
      rw [show (⟨m.p, m.aw⟩ : Mine) = m from rfl, l_implAirResist (by omega), l_implAirResist (by omega), ars_ok h1, ars_ok h2, decide_eq_true (by omega), w64_succ (by omega)]
      simp only [cond_true, Option.bind_some, bne_self_eq_false, cond_false]
      rw [w64_in (by omega) (by omega), decide_eq_false (by omega)]; rfl) (by
      simp only [p_laws_FnAirResist_L0]
      rw [decide_eq_false (by omega)]; rfl)]
    rw [show (List.range m.p.toNat).all (fun _ => true) = true by simp]
    simp only [cond_true, Option.bind_some]
    have n7 := ok.n7
    rw [loop_all (B := p_laws_FnAirResist_L1 m a b ⟨rst m a b, tr m⟩) (fun _ => true) m.aw.length false (fun k hk => by
      simp only [p_laws_FnAirResist_L1]
      rw [show (⟨m.p, m.aw⟩ : Mine) = m from rfl, l_implWiden (by omega), decide_eq_true (by omega), w64_succ (by omega)]
      simp only [cond_true, Option.bind_some]
      unfold wide
      by_cases hc : canW m (k : Int) = true
      · rw [if_pos hc]
        have P2 := wid_prOk P hc
        have hl : (wid m (k : Int)).aw.length = m.aw.length := by unfold wid; simp
        simp only
        rw [l_implAirResist (by simp only; omega), show (⟨(wid m (k : Int)).p, (wid m (k : Int)).aw⟩ : Mine) = wid m (k : Int) from rfl, ars_ok (prOk_iff.2 P2)]
        simp only [Option.bind_some, cond_true]
        rw [l_implLess]
        have : fl ⟨rst m a b, tr m⟩ ⟨rst (wid m (k : Int)) a b, tr (wid m (k : Int))⟩ = false := by
          unfold fl
          rw [decide_eq_false_iff_not]
          intro hh
          have := wid_mono P hc
          have h3 := hh.2.2
          simp only at h3
          omega
        rw [this]; rfl
      · rw [if_neg hc]
        simp only
        rw [l_implAirResist (by simp)]; rfl) (by
      simp only [p_laws_FnAirResist_L1]
      rw [decide_eq_false (by omega)]; rfl)]
    rw [show (List.range m.aw.length).all (fun _ => true) = true by simp]
    have hp2 := prOk_with P ⟨o0, o1⟩ (c := b) (d := a) ⟨i0, i1⟩
    have hturn : rst m b a = rst m a b := rs_turn hi ho
    simp only [cond_true, Option.bind_some]
    rw [l_implAirResist (by omega), ars_ok hp2, l_implAirTrees (by omega), hturn]
    have hz : (rst m a b == 0) = (a == b) := by
      have h3 := rs_zero P.cn (mine_in ok) (mine_w ok) hi ho
      by_cases e : a = b
      · have : rst m a b = 0 := h3.2 (by rw [e])
        rw [this, e]; simp
      · have : rst m a b ≠ 0 := fun hh => e (by have := h3.1 hh; omega)
        rw [show (rst m a b == 0) = false by simpa using this, show (a == b) = false by simpa using e]
    rw [hz, decide_eq_true R.1]
    simp only [Option.bind_some, beq_self_eq_true, Bool.and_self, cond_true]
    exact Tot.ret rfl
  · have : ars m a b = (⟨0, 0⟩, false) := by unfold ars; rw [if_neg hp]
    rw [this, l_alive]; exact Tot.ret rfl
end Go.Proofs.YtpfijnklnljccaaDoor
