/- The law of pressures, as a plain program; no condition. -/
import Derived.Test.YtpfijnklnljccaaDoorLm
import Derived.Test.YtpfijnklnljccaaDoorLo
import Derived.Test.YtpfijnklnljccaaDoorLs
import Derived.Test.YtpfijnklnljccaaDoorQ3Pressures
namespace Go.Proofs.YtpfijnklnljccaaDoor
open Go
set_option linter.unusedVariables false
set_option linter.unusedSimpArgs false

theorem t_drawPressures {code : List UInt8} : Tot (p_spec_DrawPressures code) fun r => r.1.aw.length ≤ 15 ∧ 0 ≤ r.1.p ∧ r.1.p ≤ 6 := by
  unfold p_spec_DrawPressures
  obtain ⟨b, hb, hl⟩ := l_bopen (code := code)
  rw [hb]; simp only [Option.bind_some]
  refine Tot.bind (t_blown hl (by omega)) fun ⟨m, q⟩ h => Tot.ret ?_
  exact h
theorem prs_len {m : Mine} {i o : Int} : (prs m i o).1.length ≤ 4611686018427387904 := by
  unfold prs
  split
  · rename_i h
    have p5 := (prOk_iff.1 h).ok.p5
    simp only [row1_len]; omega
  · simp
theorem l_FnPressures {code : List UInt8} : p_laws_FnPressures code = some true := by
  refine Tot.get ?_
  unfold p_laws_FnPressures
  refine Tot.condd (fun _ => Tot.ret rfl) (fun _ => ?_)
  refine Tot.bind t_drawPressures fun ⟨m, i, o⟩ ⟨hm, hp0, hp6⟩ => ?_
  simp only at hm hp0 hp6 ⊢
  rw [show (⟨m.p, m.aw⟩ : Mine) = m from rfl, l_implPressures (by omega), l_specPressures (by omega) (by omega)]
  simp only [Option.bind_some]
  rw [l_sameInts prs_len]
  simp only [Option.bind_some, decide_true, Bool.not_true, cond_false, beq_self_eq_true]
  unfold prs
  by_cases hp : prOk m i o = true
  · rw [if_pos hp]
    have P := prOk_iff.1 hp
    have ok := P.ok
    have p1 := ok.p1; have i0 := P.i0; have i1 := P.i1; have o0 := P.o0; have o1 := P.o1
    have hp2 : prOk m o i = true := prOk_iff.2 ⟨ok, P.cn, o0, o1, i0, i1⟩
    have hi : i.toNat ≤ mm m := by unfold mm; omega
    have ho : o.toNat ≤ mm m := by unfold mm; omega
    simp only [Bool.not_true, cond_false]
    rw [l_implPressures (by omega)]
    unfold prs
    rw [if_pos hp2]
    simp only [Option.bind_some, Bool.not_true, cond_false, row1_len, bne_self_eq_false]
    have hb : ∀ v, v ≤ mm m → pv m o i v = - pv m i o v := fun v hv => pr_turn v hv
    rw [loop_all (B := p_laws_FnPressures_L0 i o (row1 m.p.toNat (pv m i o)) (row1 m.p.toNat (pv m o i))) (fun _ => true) m.p.toNat false (fun k hk => by
      simp only [p_laws_FnPressures_L0]
      have hkm : k ≤ mm m := by unfold mm; omega
      have b1 := pv_bd P k 0 hkm (by omega)
      have b2 := pv_bd P 0 k (by omega) hkm
      rw [pv_zero] at b1 b2
      have g1 := pr_max P.cn (mine_in ok) (mine_w ok) hi ho k hkm
      have g2 := pr_min P.cn (mine_in ok) (mine_w ok) hi ho k hkm
      have e1 : pv m i o k ≤ pv m i o i.toNat := g1
      have e2 : pv m i o o.toNat ≤ pv m i o k := g2
      rw [row1_len, row1_len, decide_eq_true (by omega), idx_at hk, idx_at hk, row1_gx hk, row1_gx hk, hb k hkm, w64_in (x := - pv m i o k) (by omega) (by omega), idx_of (by omega), idx_of (by omega), row1_gx (by omega), row1_gx (by omega), w64_succ (by omega), decide_eq_false (by omega), decide_eq_false (by omega)]
      simp only [bne_self_eq_false, cond_true, cond_false]) (by
      simp only [p_laws_FnPressures_L0]
      rw [row1_len, decide_eq_false (by omega)]; rfl)]
    rw [show (List.range m.p.toNat).all (fun _ => true) = true by simp]
    simp only [cond_true, Option.bind_some]
    rw [idx_of (by omega), row1_gx (by omega)]
    exact Tot.ret (by rw [show ((0 : Int)).toNat = 0 from rfl, pv_zero]; rfl)
  · rw [if_neg hp]
    simp only [Bool.not_false, cond_true, List.length_nil]
    rw [l_alive]; exact Tot.ret rfl
end Go.Proofs.YtpfijnklnljccaaDoor
