/- The law of the matrix of a mine, as a plain program; no condition. -/
import Derived.Test.YtpfijnklnljccaaDoorLm
import Derived.Test.YtpfijnklnljccaaDoorLl
import Derived.Test.YtpfijnklnljccaaDoorLs
import Derived.Test.YtpfijnklnljccaaDoorLy
import Derived.Test.YtpfijnklnljccaaDoorQ3AirMatrix
namespace Go.Proofs.YtpfijnklnljccaaDoor
open Go
set_option linter.unusedVariables false
set_option linter.unusedSimpArgs false

theorem t_drawAirMatrix {code : List UInt8} : Tot (p_spec_DrawAirMatrix code) fun m => m.aw.length ≤ 15 ∧ 0 ≤ m.p ∧ m.p ≤ 6 := by
  unfold p_spec_DrawAirMatrix
  obtain ⟨b, hb, hl⟩ := l_bopen (code := code)
  rw [hb]; simp only [Option.bind_some]
  refine Tot.bind (t_mine hl (by omega) (by omega)) fun ⟨m, q⟩ h => Tot.ret ?_
  exact h.2.2
def backA (a : Airway) : Airway := ⟨a.t, a.f, a.w⟩
theorem matOk_airM {m : Mine} (ok : MineOk m) : MatOk (airM m) := by
  have p5 := ok.p5
  rw [airM_ok ok]
  exact ⟨by rw [tab_len]; unfold mm; omega, fun k hk => by rw [tab_len] at hk; rw [tab_gx hk, row1_len, tab_len], fun k hk j hj => by
    rw [tab_len] at hk hj
    rw [tab_gx hk, row1_gx hj]; have := L0_bd ok k j; omega⟩
theorem lap_sym {E : List Ed} {u v : Nat} : lap E u v = lap E v u := es_congr fun e he => by grind
theorem turn_airM {m : Mine} (ok : MineOk m) : turn (airM m) = airM m := by
  unfold turn
  rw [if_pos (matOk_iff.2 (matOk_airM ok))]
  have e := airM_ok ok
  rw [e, tab_len]
  apply tab_ext; intro i j hi hj
  rw [fm_tab hj hi]; exact lap_sym
theorem l_FnAirMatrix {code : List UInt8} : p_laws_FnAirMatrix code = some true := by
  refine Tot.get ?_
  unfold p_laws_FnAirMatrix
  refine Tot.condd (fun _ => Tot.ret rfl) (fun _ => ?_)
  refine Tot.bind t_drawAirMatrix fun m ⟨hm, hp0, hp6⟩ => ?_
  rw [show (⟨m.p, m.aw⟩ : Mine) = m from rfl, l_implAirMatrix (by omega), l_specAirMatrix (by omega) (by omega)]
  simp only [Option.bind_some]
  rw [l_sameLists airM_rows.1 airM_rows.2, l_specMineValid (by omega)]
  simp only [Option.bind_some, decide_true, Bool.not_true, cond_false]
  refine Tot.cond (fun hv => ?_) (fun hv => ?_)
  · have : airM m = [] := by unfold airM; rw [if_neg]; simpa using hv
    rw [this, l_alive]; exact Tot.ret rfl
  · have hok : mineOk m = true := by simpa using hv
    have ok := mineOk_iff.1 hok
    have n7 := ok.n7
    have hmap : (m.aw.map backA).length = m.aw.length := by simp
    rw [loop_to (B := p_laws_FnAirMatrix_L0 m) (fun k => ((k : Int), (m.aw.map backA).take k)) m.aw.length (by rfl) (e := m.aw.map backA) (fun k hk => by
      simp only [p_laws_FnAirMatrix_L0]
      rw [decide_eq_true (by omega), idx_at hk, need_of (by simp; omega), w64_succ (by omega), take_gx (by rw [hmap]; exact hk), gx_of_map hk]; rfl) (by
      simp only [p_laws_FnAirMatrix_L0]
      rw [decide_eq_false (by omega), List.take_of_length_le (by rw [hmap]; omega)]; rfl)]
    simp only [Option.bind_some]
    rw [l_MatrixTurn airM_rows.1 airM_rows.2, turn_airM ok]
    simp only [Option.bind_some]
    rw [l_sameLists airM_rows.1 airM_rows.2, l_implAirMatrix (by simp; omega)]
    simp only [Option.bind_some, decide_true, cond_true]
    rw [l_sameLists airM_rows.1 airM_rows.2]
    have ok2 : MineOk ⟨m.p, m.aw.map backA⟩ := by
      refine ⟨ok.p1, ok.p5, by simpa using n7, fun k hk => ?_⟩
      have hk' : k < m.aw.length := by simpa using hk
      have a := ok.aw k hk'
      simp only
      rw [gx_of_map hk']
      exact ⟨a.t0, a.t1, a.f0, a.f1, Ne.symm a.ne, a.w1, a.w6⟩
    have e : airM ⟨m.p, m.aw.map backA⟩ = airM m := by
      rw [airM_ok ok2, airM_ok ok]
      apply tab_ext; intro i j hi hj
      unfold L0 lap eM
      simp only [List.map_map]
      generalize m.aw = l
      induction l with
      | nil => rfl
      | cons a l ih =>
        simp only [List.map_cons, es]
        rw [ih]
        congr 1
        simp only [Function.comp, eA, backA, xv]
        grind
    rw [e]
    simp only [Option.bind_some, decide_true]
    exact Tot.ret rfl
end Go.Proofs.YtpfijnklnljccaaDoor
