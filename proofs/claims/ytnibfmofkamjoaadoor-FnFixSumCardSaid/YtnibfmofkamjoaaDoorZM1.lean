/- The law of what fixes miss together, as a plain program; no condition. -/
import Derived.Test.YtnibfmofkamjoaaDoorZL8
import Derived.Test.YtnibfmofkamjoaaDoorZQ
namespace Go.Proofs.YtnibfmofkamjoaaDoor
open Go
set_option linter.unusedVariables false
set_option linter.unusedSimpArgs false

theorem t_drawFixSum {code : List UInt8} : Tot (p_spec_DrawFixSum code) fun r => r.1.legs.length ≤ 10 ∧ 0 ≤ r.1.st ∧ r.1.st ≤ 7 ∧ r.2.nums.length ≤ 10 := by
  unfold p_spec_DrawFixSum
  obtain ⟨b, hb, hl⟩ := x_bopen (code := code)
  rw [hb]; simp only [Option.bind_some]
  refine Tot.bind (t_fix hl (by omega)) fun ⟨s, f, q⟩ h => Tot.ret ?_
  simp only at h ⊢
  exact h.2.2
theorem mul_bd2 {x d X D : Int} (h : 0 ≤ x ∧ x ≤ X) (g : 0 ≤ d ∧ d ≤ D) : 0 ≤ x * d ∧ x * d ≤ X * D :=
  ⟨Int.mul_nonneg h.1 g.1, Int.mul_le_mul h.2 g.2 g.1 (by omega)⟩
theorem mul_bd3 {x d X D : Int} (h : -X ≤ x ∧ x ≤ X) (g : 0 ≤ d ∧ d ≤ D) : -(X * D) ≤ x * d ∧ x * d ≤ X * D := by
  by_cases c : 0 ≤ x
  · have := mul_bd2 ⟨c, h.2⟩ g
    omega
  · have := mul_bd2 (x := -x) (X := X) ⟨by omega, by omega⟩ g
    rw [Int.neg_mul] at this
    omega
/-- One place of a fix against the best one. -/
def cell (s : Survey) (f : Fix) (k : Nat) : Bool := ((gx f.nums k).e * tm s == pA s Leg.e k * f.den) && ((gx f.nums k).n * tm s == pA s Leg.n k * f.den) && ((gx f.nums k).u * tm s == pA s Leg.u k * f.den)
theorem l_sameLoop {s : Survey} {f : Fix} (ha : adjOk s = true) (hf : FixOk s f) : loop (p_laws_FnFixSum_L0 f ⟨tm s, wsA s⟩) (true, 0) = some ((List.range (mS s + 1)).all (cell s f)) := by
  have ok := hf.sv
  have p1 := ok.p1; have p6 := ok.p6; have ln := hf.ln
  have tp := tm_pos ha
  have tl := tm_le (s := s)
  have d1 := hf.d1; have d9 := hf.d9
  have hm : f.nums.length = mS s + 1 := by unfold mS; omega
  have hw := wsA_len (s := s)
  have h5 : mS s ≤ 5 := by unfold mS; omega
  rw [loop_to (B := p_laws_FnFixSum_L0 f ⟨tm s, wsA s⟩) (fun k => ((List.range k).all (cell s f), (k : Int))) (mS s + 1) (by rfl) (fun k hk => by
    simp only [p_laws_FnFixSum_L0]
    rw [decide_eq_true (by omega), decide_eq_true (by omega), w64_succ (by omega), List.range_succ, List.all_append]
    simp only [cond_true, Option.bind_some]
    cases (List.range k).all (cell s f) with
    | false => rfl
    | true =>
      have b1 := mul_bd3 (X := 99999) (hf.e k (by omega)) (show 0 ≤ tm s ∧ tm s ≤ 999 by omega)
      have b2 := mul_bd3 (X := 99999) (hf.n k (by omega)) (show 0 ≤ tm s ∧ tm s ≤ 999 by omega)
      have b3 := mul_bd3 (X := 99999) (hf.u k (by omega)) (show 0 ≤ tm s ∧ tm s ≤ 999 by omega)
      have c1 := mul_bd3 (X := 99999) (pA_bd ha dir_e k (by omega)) (show 0 ≤ f.den ∧ f.den ≤ 999 by omega)
      have c2 := mul_bd3 (X := 99999) (pA_bd ha dir_n k (by omega)) (show 0 ≤ f.den ∧ f.den ≤ 999 by omega)
      have c3 := mul_bd3 (X := 99999) (pA_bd ha dir_u k (by omega)) (show 0 ≤ f.den ∧ f.den ≤ 999 by omega)
      simp only [cond_true, p_impl_WayTimes, Option.bind_some]
      rw [idx_at (by omega), idx_at (by omega), wsA_gx hk]
      simp only
      rw [w64_i (by omega), w64_i (by omega), w64_i (by omega), w64_i (by omega), w64_i (by omega), w64_i (by omega)]
      simp only [List.all_cons, List.all_nil, Bool.and_true, Bool.true_and]
      rfl) (by
    simp only [p_laws_FnFixSum_L0]
    rw [decide_eq_false (by omega)]; rfl)]
theorem cell_all {s : Survey} {f : Fix} (ha : adjOk s = true) (hf : FixOk s f) : (List.range (mS s + 1)).all (cell s f) = decide (fZ s f = 0) := by
  rw [Bool.eq_iff_iff, decide_eq_true_eq, fZ_zero ha hf, List.all_eq_true]
  constructor
  · intro h v hv
    have := h v (List.mem_range.2 (by omega))
    unfold cell at this
    simp only [Bool.and_eq_true, beq_iff_eq] at this
    rw [Int.mul_comm f.den, Int.mul_comm (tm s), Int.mul_comm f.den, Int.mul_comm (tm s), Int.mul_comm f.den, Int.mul_comm (tm s)]
    exact ⟨this.1.1.symm, this.1.2.symm, this.2.symm⟩
  · intro h v hv
    obtain ⟨a, b, c⟩ := h v (by have := List.mem_range.1 hv; omega)
    unfold cell
    simp only [Bool.and_eq_true, beq_iff_eq]
    rw [Int.mul_comm f.den, Int.mul_comm (tm s)] at a b c
    exact ⟨⟨a.symm, b.symm⟩, c.symm⟩
theorem l_FnFixSum {code : List UInt8} : p_laws_FnFixSum code = some true := by
  refine Tot.get ?_
  unfold p_laws_FnFixSum
  refine Tot.condd (fun _ => Tot.ret rfl) (fun _ => ?_)
  refine Tot.bind t_drawFixSum fun ⟨s, f⟩ ⟨hm, hp0, hp7, hn⟩ => ?_
  simp only at hm hp0 hp7 hn ⊢
  rw [show (⟨s.st, s.legs⟩ : Survey) = s from rfl, show (⟨f.den, f.nums⟩ : Fix) = f from rfl, l_implFixSum (by omega), l_specFixSum (by omega)]
  simp only [Option.bind_some, bne_self_eq_false, cond_false]
  cases hv : fixOk s f with
  | false =>
    have e : fixSum s f = -1 := by unfold fixSum; rw [hv]; rfl
    rw [e]
    simp only [show decide ((-1 : Int) < 0) = true from rfl, cond_true, beq_self_eq_true]
    rw [l_alive]; exact Tot.ret rfl
  | true =>
    have e : fixSum s f = fsum s f := by unfold fixSum; rw [hv]; rfl
    have hf := fixOk_to hv
    have xb := fsum_bd hf
    rw [e, decide_eq_false (by omega), cond_false, l_implAdjust (by omega)]
    cases ha : adjOk s with
    | false =>
      have : adj s = (⟨0, []⟩, false) := by unfold adj; rw [ha]; rfl
      rw [this]; exact Tot.ret rfl
    | true =>
      have hg := adj_fix ha
      have lb := fsum_bd (fixOk_to hg)
      have lsq := fsum_lsq (f := f) ha
      have zn := fZ_nonneg (s := s) (f := f)
      rw [adj_eq ha] at hg lb lsq
      rw [adj_eq ha]
      simp only [Option.bind_some, Bool.not_true, cond_false] at hg lb lsq ⊢
      rw [l_implFixSum (by omega)]
      have e2 : fixSum s ⟨tm s, wsA s⟩ = fsum s ⟨tm s, wsA s⟩ := by unfold fixSum; rw [hg]; rfl
      rw [e2]
      simp only [Option.bind_some]
      rw [l_sameLoop ha hf, cell_all ha hf]
      have tp := tm_pos ha
      have tl := tm_le (s := s)
      have d1 := hf.d1; have d9 := hf.d9
      generalize fsum s ⟨tm s, wsA s⟩ = L at *
      generalize fsum s f = X at *
      generalize tm s = T at *
      generalize f.den = n at *
      generalize fZ s f = Z at *
      have m1 := mul_bd2 lb (show 0 ≤ n ∧ n ≤ 999 by omega)
      have m2 := mul_bd2 m1 (show 0 ≤ n ∧ n ≤ 999 by omega)
      have m3 := mul_bd2 xb (show 0 ≤ T ∧ T ≤ 999 by omega)
      have m4 := mul_bd2 m3 (show 0 ≤ T ∧ T ≤ 999 by omega)
      have q1 : L * n * n = n * n * L := by rw [Int.mul_assoc, Int.mul_comm]
      have q2 : X * T * T = T * T * X := by rw [Int.mul_assoc, Int.mul_comm]
      simp only [Option.bind_some]
      rw [w64_i (x := L * n) (by omega), w64_i (x := X * T) (by omega), w64_i (x := L * n * n) (by omega), w64_i (x := X * T * T) (by omega)]
      rw [decide_eq_true (by omega), decide_eq_true (by omega)]
      simp only [cond_true]
      refine Tot.ret ?_
      rw [beq_iff_eq, beq_dec, decide_eq_decide]
      omega
end Go.Proofs.YtnibfmofkamjoaaDoor
