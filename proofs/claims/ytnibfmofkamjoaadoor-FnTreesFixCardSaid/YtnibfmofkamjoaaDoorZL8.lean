/- What fixes miss, squared and added: the adjusted survey misses least; no condition but the sizes. -/
import Derived.Test.YtnibfmofkamjoaaDoorZL3
import Derived.Test.YtnibfmofkamjoaaDoorZQ
namespace Go.Proofs.YtnibfmofkamjoaaDoor
open Go
set_option linter.unusedVariables false
set_option linter.unusedSimpArgs false

theorem Ec_w {s : Survey} {c : Leg → Int} : ∀ e ∈ Ec s c, e.w = 1 := fun e he => by
  obtain ⟨g, _, rfl⟩ := List.mem_map.1 he
  rfl
theorem leg_in {s : Survey} {k : Nat} (ok : SurveyOk s) (hk : k < s.legs.length) : (gx s.legs k).f.toNat ≤ mS s ∧ (gx s.legs k).t.toNat ≤ mS s := by
  have a := ok.lg k hk
  have a0 := a.f0; have a1 := a.f1; have a2 := a.t0; have a3 := a.t1
  unfold mS; omega
theorem adj_one {s : Survey} (h : adjOk s = true) : SurveyOk s ∧ one (mS s) (sP s) = true := by
  unfold adjOk at h
  rw [Bool.and_eq_true] at h
  have ok := surveyOk_iff.1 h.1
  exact ⟨ok, by rw [← h.2, pm_one ok]; rfl⟩
theorem adj_eq {s : Survey} (h : adjOk s = true) : adj s = (⟨tm s, wsA s⟩, true) := by unfold adj; rw [if_pos h]
theorem pA_qs {s : Survey} {c : Leg → Int} (h : adjOk s = true) : ∀ v, v ≤ mS s → pA s c v = qs (mS s) (Ec s c) v := fun v hv => by
  obtain ⟨ok, h1⟩ := adj_one h
  have := (D_pos (sv_in ok) lE_w).2 (conn_iff.1 h1)
  exact so_qs (Ec_in ok) (by rw [Ec_D]; omega) v hv
/-- What a leg adds to the right sides. -/
theorem rq_step {s : Survey} {c : Leg → Int} {k v : Nat} : rq s c (k + 1) v = rq s c k v + xv (eL c (gx s.legs k)) v * c (gx s.legs k) := rfl
theorem adj_row {s : Survey} {c : Leg → Int} {k x y n : Nat} {l : List Int} (ok : SurveyOk s) (hc : Dir c) (hk : k < s.legs.length) (hx : (gx s.legs k).f = (x : Int)) (hy : (gx s.legs k).t = (y : Int)) (hn : n = mS s) (hl : l = row1 n fun v => rq s c k (v + 1)) :
    (if 0 < x then (if 0 < y then l.set (y - 1) (w64 (gx l (y - 1) + c (gx s.legs k))) else l).set (x - 1) (w64 (gx (if 0 < y then l.set (y - 1) (w64 (gx l (y - 1) + c (gx s.legs k))) else l) (x - 1) - c (gx s.legs k))) else (if 0 < y then l.set (y - 1) (w64 (gx l (y - 1) + c (gx s.legs k))) else l)) = row1 n fun v => rq s c (k + 1) (v + 1) := by
  have a := leg_in ok hk
  have n9 := ok.n9
  rw [hx, hy] at a
  simp only [Int.toNat_natCast] at a
  have ne := (ok.lg k hk).ne
  rw [hx, hy] at ne
  have cb := hc _ _ (ok.lg k hk)
  have e1 : (if 0 < y then l.set (y - 1) (w64 (gx l (y - 1) + c (gx s.legs k))) else l) = row1 n fun v => rq s c k (v + 1) + (if v + 1 = y then c (gx s.legs k) else 0) := by
    by_cases h : 0 < y
    · have b := rq_bd ok hc (v := y - 1 + 1) (Nat.le_of_lt hk)
      rw [if_pos h, hl, row1_set (by omega), row1_gx (by omega), w64_i (by omega)]
      apply row1_ext; intro v hv
      by_cases e : v = y - 1
      · subst e; rw [if_pos rfl, if_pos (by omega)]
      · rw [if_neg e, if_neg (by omega)]; omega
    · rw [if_neg h, hl]
      apply row1_ext; intro v hv
      rw [if_neg (by omega)]; omega
  rw [e1]
  have xe : ∀ v, xv (eL c (gx s.legs k)) v = (if y = v then 1 else 0) - (if x = v then 1 else 0) := fun v => by
    unfold xv eL
    simp only [hx, hy, Int.toNat_natCast]
  by_cases h : 0 < x
  · have b := rq_bd ok hc (v := x - 1 + 1) (Nat.le_of_lt hk)
    rw [if_pos h, row1_set (by omega), row1_gx (by omega), if_neg (show ¬ x - 1 + 1 = y by omega), w64_i (by omega)]
    apply row1_ext; intro v hv
    rw [rq_step, xe]
    by_cases e : v = x - 1
    · subst e; rw [if_pos rfl, if_pos (show x = x - 1 + 1 by omega), if_neg (by omega)]; omega
    · rw [if_neg e, if_neg (show ¬ x = v + 1 by omega)]
      by_cases e2 : v + 1 = y
      · rw [if_pos e2, if_pos e2.symm]; omega
      · rw [if_neg e2, if_neg (fun h => e2 h.symm)]; omega
  · rw [if_neg h]
    apply row1_ext; intro v hv
    rw [rq_step, xe, if_neg (show ¬ x = v + 1 by omega)]
    by_cases e2 : v + 1 = y
    · rw [if_pos e2, if_pos e2.symm]; omega
    · rw [if_neg e2, if_neg (fun h => e2 h.symm)]; omega
theorem l_implAdjust {s : Survey} (h : s.legs.length ≤ 4611686018427387904) : p_impl_Adjust s = some (adj s) := by
  unfold p_impl_Adjust adj adjOk
  rw [show (⟨s.st, s.legs⟩ : Survey) = s from rfl, l_implSurveyValid h, l_implPartsMany h]
  cases hv : surveyOk s with
  | false => rfl
  | true =>
    have ok := surveyOk_iff.1 hv
    have p1 := ok.p1; have p6 := ok.p6; have n9 := ok.n9
    have h5 : mS s ≤ 5 := by unfold mS; omega
    simp only [Option.bind_some, Bool.not_true, cond_false, Bool.true_and, bne]
    cases hp : (pm s == 1) with
    | false => rfl
    | true =>
      have h1 : one (mS s) (sP s) = true := by rw [← hp, pm_one ok]; rfl
      simp only [Bool.not_true, cond_false, if_true]
      have hn : s.st = ((mS s + 1 : Nat) : Int) := by unfold mS; omega
      have ew : w64 (s.st - 1) = ((mS s : Nat) : Int) := by rw [w64_i (by omega)]; omega
      rw [ew, sized_at (by omega), sized_at (by omega), sized_at (by omega)]
      have hd := p_impl_Adjust_L0
      rw [loop_to (B := p_impl_Adjust_L0 s (mS s) (mS s) (mS s)) (fun k => ((k : Int), row1 (mS s) fun v => rq s Leg.e k (v + 1), row1 (mS s) fun v => rq s Leg.n k (v + 1), row1 (mS s) fun v => rq s Leg.u k (v + 1))) s.legs.length (by rw [row1_zero]; rfl)
        (e := (row1 (mS s) fun k => rhs (Ec s Leg.e) (k + 1), row1 (mS s) fun k => rhs (Ec s Leg.n) (k + 1), row1 (mS s) fun k => rhs (Ec s Leg.u) (k + 1))) (fun k hk => by
        have a := ok.lg k hk
        obtain ⟨x, hx⟩ := Int.eq_ofNat_of_zero_le a.f0
        obtain ⟨y, hy⟩ := Int.eq_ofNat_of_zero_le a.t0
        have a1 := a.f1; have a2 := a.t1
        have re := adj_row (l := row1 (mS s) fun v => rq s Leg.e k (v + 1)) ok dir_e hk hx hy rfl rfl
        have rn := adj_row (l := row1 (mS s) fun v => rq s Leg.n k (v + 1)) ok dir_n hk hx hy rfl rfl
        have ru := adj_row (l := row1 (mS s) fun v => rq s Leg.u k (v + 1)) ok dir_u hk hx hy rfl rfl
        simp only [p_impl_Adjust_L0]
        rw [decide_eq_true (by omega), idx_at hk, w64_succ (by omega), hx, hy, ← re, ← rn, ← ru]
        simp only [cond_true]
        by_cases hy0 : 0 < y
        · have ey : w64 ((y : Int) - 1) = ((y - 1 : Nat) : Int) := by rw [w64_i (by omega)]; omega
          rw [decide_eq_true (show (0 : Int) < (y : Int) by omega), ey, idx_at (by omega), idx_at (by omega), idx_at (by omega)]
          simp only [cond_true, Option.bind_some, if_pos hy0]
          by_cases hx0 : 0 < x
          · have ex : w64 ((x : Int) - 1) = ((x - 1 : Nat) : Int) := by rw [w64_i (by omega)]; omega
            rw [decide_eq_true (show (0 : Int) < (x : Int) by omega), ex, idx_at (by omega), idx_at (by omega), idx_at (by omega)]
            simp only [cond_true, if_pos hx0]
          · rw [decide_eq_false (show ¬ (0 : Int) < (x : Int) by omega)]
            simp only [cond_false, if_neg hx0]
        · rw [decide_eq_false (show ¬ (0 : Int) < (y : Int) by omega)]
          simp only [cond_false, Option.bind_some, if_neg hy0]
          by_cases hx0 : 0 < x
          · have ex : w64 ((x : Int) - 1) = ((x - 1 : Nat) : Int) := by rw [w64_i (by omega)]; omega
            rw [decide_eq_true (show (0 : Int) < (x : Int) by omega), ex, idx_at (by omega), idx_at (by omega), idx_at (by omega)]
            simp only [cond_true, if_pos hx0]
          · rw [decide_eq_false (show ¬ (0 : Int) < (x : Int) by omega)]
            simp only [cond_false, if_neg hx0]) (by
        simp only [p_impl_Adjust_L0]
        rw [decide_eq_false (by omega)]
        simp only [cond_false, rq_all])]
      simp only [Option.bind_some]
      rw [l_implLinks h]
      simp only [Option.bind_some]
      rw [l_implSolve lkM_rows.1 lkM_rows.2 (by rw [row1_len]; omega), l_implSolve lkM_rows.1 lkM_rows.2 (by rw [row1_len]; omega), l_implSolve lkM_rows.1 lkM_rows.2 (by rw [row1_len]; omega), solve_pA ok dir_e h1, solve_pA ok dir_n h1, solve_pA ok dir_u h1]
      simp only [Option.bind_some]
      rw [hn, sized_at (by omega)]
      have hz : gx (wsA s) 0 = ⟨0, 0, 0⟩ := by rw [wsA_gx (by omega)]; rfl
      have hl := wsA_len (s := s)
      rw [loop_to (B := p_impl_Adjust_L1 s (row1 (mS s) fun k => pA s Leg.e (k + 1)) (row1 (mS s) fun k => pA s Leg.n (k + 1)) (row1 (mS s) fun k => pA s Leg.u (k + 1)) (mS s + 1)) (fun k => ((k : Int), fillG (wsA s) ⟨0, 0, 0⟩ (k + 1))) (mS s) (by
        have := fillG_set (l := wsA s) (z := ⟨0, 0, 0⟩) (k := 0) (by omega)
        rw [← this, hz, ← fillG_zero, hl]
        rfl) (e := wsA s) (fun k hk => by
        simp only [p_impl_Adjust_L1, ew]
        rw [row1_len, decide_eq_true (by omega), idx_at hk, row1_len, idx_at hk, row1_len, idx_at hk, row1_gx hk, row1_gx hk, row1_gx hk, w64_succ (by omega), idx_at (by omega), ← fillG_set (l := wsA s) (k := k + 1) (by omega), wsA_gx (by omega)]; rfl) (by
        simp only [p_impl_Adjust_L1, ew]
        rw [decide_eq_false (by omega), ← hl, fillG_end]; rfl)]
      rfl
end Go.Proofs.YtnibfmofkamjoaaDoor
