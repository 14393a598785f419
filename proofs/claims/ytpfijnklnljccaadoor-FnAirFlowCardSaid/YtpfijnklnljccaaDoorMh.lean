/- The law of the flow of air, as a plain program; no condition. -/
import Derived.Test.YtpfijnklnljccaaDoorLm
import Derived.Test.YtpfijnklnljccaaDoorLo
import Derived.Test.YtpfijnklnljccaaDoorLs
import Derived.Test.YtpfijnklnljccaaDoorLh
import Derived.Test.YtpfijnklnljccaaDoorQ3AirFlow
namespace Go.Proofs.YtpfijnklnljccaaDoor
open Go
set_option linter.unusedVariables false
set_option linter.unusedSimpArgs false

theorem t_drawAirFlow {code : List UInt8} : Tot (p_spec_DrawAirFlow code) fun r => r.1.aw.length ≤ 15 ∧ 0 ≤ r.1.p ∧ r.1.p ≤ 6 := by
  unfold p_spec_DrawAirFlow
  obtain ⟨b, hb, hl⟩ := l_bopen (code := code)
  rw [hb]; simp only [Option.bind_some]
  refine Tot.bind (t_blown hl (by omega)) fun ⟨m, q⟩ h => Tot.ret ?_
  exact h
theorem afs_len {m : Mine} {i o : Int} : (afs m i o).1.length ≤ 4611686018427387904 := by
  unfold afs
  split
  · rename_i h
    have n7 := (prOk_iff.1 h).ok.n7
    simp only [row1_len]; omega
  · simp
theorem dv_congr {E : List Ed} {f g : Nat → Int} {v : Nat} (h : ∀ k, k < E.length → f k = g k) : dv E f v = dv E g v := by
  unfold dv; exact sm_congr fun k hk => by rw [h k hk]
theorem flOk_air {m : Mine} {i o : Int} (P : PrOk m i o) : flOk m i o (tr m) (row1 m.aw.length (aflow m i o)) = true := by
  have ok := P.ok
  have i0 := P.i0; have i1 := P.i1; have o0 := P.o0; have o1 := P.o1; have p1 := ok.p1
  have hi : i.toNat ≤ mm m := by unfold mm; omega
  have ho : o.toNat ≤ mm m := by unfold mm; omega
  unfold flOk
  rw [mineOk_iff.2 ok, decide_eq_true i0, decide_eq_true i1, decide_eq_true o0, decide_eq_true o1, decide_eq_true row1_len]
  have hf : fits (row1 m.aw.length (aflow m i o)) = true := by
    unfold fits
    rw [List.all_eq_true]
    intro k hk
    have hk' : k < m.aw.length := by simpa [row1_len] using hk
    rw [row1_gx hk']
    have := aflow_bd P hk'
    unfold fitB
    rw [decide_eq_true (by omega), decide_eq_true (by omega)]; rfl
  rw [hf]
  simp only [Bool.and_self, Bool.true_and]
  rw [List.all_eq_true]
  intro v hv
  have hv' : v ≤ mm m := by rw [List.mem_range] at hv; unfold mm; omega
  rw [decide_eq_true_eq]
  rw [dv_congr (g := air (eM m) (pv m i o)) (fun k hk => by rw [eM_len] at hk; rw [row1_gx hk]; rfl), dv_air]
  have := pr_kc (mine_in ok) hi ho v hv'
  unfold tr
  rw [if_pos (mineOk_iff.2 ok)]
  exact this
theorem l_FnAirFlow {code : List UInt8} : p_laws_FnAirFlow code = some true := by
  refine Tot.get ?_
  unfold p_laws_FnAirFlow
  refine Tot.condd (fun _ => Tot.ret rfl) (fun _ => ?_)
  refine Tot.bind t_drawAirFlow fun ⟨m, i, o⟩ ⟨hm, hp0, hp6⟩ => ?_
  simp only at hm hp0 hp6 ⊢
  rw [show (⟨m.p, m.aw⟩ : Mine) = m from rfl, l_implAirFlow (by omega), l_specAirFlow (by omega) (by omega)]
  simp only [Option.bind_some]
  rw [l_sameInts afs_len]
  simp only [Option.bind_some, decide_true, Bool.not_true, cond_false, beq_self_eq_true]
  unfold afs
  by_cases hp : prOk m i o = true
  · rw [if_pos hp]
    have P := prOk_iff.1 hp
    have ok := P.ok
    have p1 := ok.p1; have n7 := ok.n7
    simp only [Bool.not_true, cond_false]
    rw [l_implPressures (by omega)]
    unfold prs
    rw [if_pos hp]
    simp only [Option.bind_some, row1_len]
    rw [show (((m.p.toNat : Nat) : Int) != m.p) = false by simp; omega, cond_false]
    rw [loop_all (B := p_laws_FnAirFlow_L0 m (row1 m.aw.length (aflow m i o)) (row1 m.p.toNat (pv m i o))) (fun _ => true) m.aw.length false (fun k hk => by
      simp only [p_laws_FnAirFlow_L0]
      have A := ok.aw k hk
      obtain ⟨a, ha⟩ := Int.eq_ofNat_of_zero_le A.f0
      obtain ⟨b, hb⟩ := Int.eq_ofNat_of_zero_le A.t0
      have f1 := A.f1; have t1 := A.t1
      rw [row1_len, row1_len, decide_eq_true (by omega), idx_at hk, idx_at hk, idx_eq ha (by omega), idx_eq hb (by omega), flow_w P hk rfl ha hb, row1_gx hk, w64_succ (by omega)]
      simp only [bne_self_eq_false, cond_true, cond_false]) (by
      simp only [p_laws_FnAirFlow_L0]
      rw [row1_len, decide_eq_false (by omega)]; rfl)]
    rw [show (List.range m.aw.length).all (fun _ => true) = true by simp]
    simp only [cond_true, Option.bind_some]
    have t1 := tr_le (m := m)
    have t2 : 0 < tr m := tr_pos.2 (lnk_conn.2 ⟨mineOk_iff.2 ok, P.cn⟩)
    rw [l_implAirTrees (by omega), Option.bind_some, l_implFlowOk (by omega) (by rw [row1_len]; omega) (by omega), flOk_air P]
    exact Tot.ret rfl
  · rw [if_neg hp]
    simp only [Bool.not_false, cond_true, List.length_nil]
    rw [l_alive]; exact Tot.ret rfl
end Go.Proofs.YtpfijnklnljccaaDoor
