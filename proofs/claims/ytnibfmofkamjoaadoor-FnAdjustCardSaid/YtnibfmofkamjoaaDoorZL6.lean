/- Loops that legs close, by how much a leg misses its end, whether a survey closes; no condition but the sizes. -/
import Derived.Test.YtnibfmofkamjoaaDoorZL5
import Derived.Test.YtnibfmofkamjoaaDoorZL9
import Derived.Test.YtnibfmofkamjoaaDoorZQ
namespace Go.Proofs.YtnibfmofkamjoaaDoor
open Go
set_option linter.unusedVariables false
set_option linter.unusedSimpArgs false

theorem w64_mulw (m d : Int) : w64 (w64 m * d) = w64 (m * d) := by
  obtain ⟨k1, e1, a1, b1⟩ := w64_mod m
  obtain ⟨k2, e2, a2, b2⟩ := w64_mod (w64 m * d)
  obtain ⟨k3, e3, a3, b3⟩ := w64_mod (m * d)
  have : w64 m * d = m * d - 18446744073709551616 * (k1 * d) := by rw [e1]; grind
  rw [this] at e2 a2 b2 ⊢
  generalize k1 * d = q at *
  generalize m * d = p at *
  omega
/-- By how much a leg misses its end. -/
def mclW (s : Survey) (k : Nat) : Way := ⟨w64 (mcl s Leg.e k), w64 (mcl s Leg.n k), w64 (mcl s Leg.u k)⟩
def mclo (s : Survey) (k : Int) : Way × Bool := if surveyOk s && inL s k then (mclW s k.toNat, true) else (⟨0, 0, 0⟩, false)
theorem tpl_at {s : Survey} {v : Int} (ok : SurveyOk s) (h : 0 ≤ v ∧ v < s.st) : tpl s v = (plW s v.toNat, true) := by
  unfold tpl inSt
  rw [surveyOk_iff.2 ok, decide_eq_true h.1, decide_eq_true h.2]; rfl
theorem w64_mis {a b c : Int} (hb : -1000 ≤ b ∧ b ≤ 1000) : w64 (w64 (w64 a + b) + w64 (w64 c * (-1))) = w64 (a + b - c) := by
  have e := w64_i (x := b) (by omega)
  have e1 : w64 (w64 a + b) = w64 (a + b) := by
    have := w64_add2 a b
    rw [e] at this; exact this
  rw [e1, w64_mulw, w64_add2, Int.mul_neg, Int.mul_one, ← Int.sub_eq_add_neg]
theorem l_implMisclosure {s : Survey} {k : Int} (h : s.legs.length ≤ 4611686018427387904) : p_impl_Misclosure s k = some (mclo s k) := by
  unfold p_impl_Misclosure mclo inL
  rw [show (⟨s.st, s.legs⟩ : Survey) = s from rfl, l_implSurveyValid h, l_isIndex]
  cases hv : surveyOk s with
  | false => rfl
  | true =>
    have ok := surveyOk_iff.1 hv
    have p1 := ok.p1; have p6 := ok.p6; have n9 := ok.n9
    simp only [Option.bind_some, Bool.not_true, cond_false, Bool.true_and]
    by_cases hk : 0 ≤ k ∧ k < (s.legs.length : Int)
    · obtain ⟨j, rfl⟩ := Int.eq_ofNat_of_zero_le hk.1
      have hj : j < s.legs.length := by omega
      rw [decide_eq_true hk.1, decide_eq_true hk.2]
      have a := ok.lg j hj
      simp only [Bool.and_self, Bool.not_true, cond_false, if_true, Option.bind_some]
      have b1 := a.e0; have b2 := a.e1; have b3 := a.n0; have b4 := a.n1; have b5 := a.u0; have b6 := a.u1
      rw [idx_at hj, l_implTreePlace h, l_implTreePlace h, tpl_at ok ⟨a.f0, a.f1⟩, tpl_at ok ⟨a.t0, a.t1⟩]
      simp only [p_impl_legWay, p_impl_WayTimes, p_impl_WayAdd, Option.bind_some, plW]
      rw [w64_mis (by omega), w64_mis (by omega), w64_mis (by omega)]
      rfl
    · have : (decide (0 ≤ k) && decide (k < (s.legs.length : Int))) = false := by rw [and_dec, decide_eq_false hk]
      rw [this]; rfl
theorem mclo_at {s : Survey} {k : Nat} (ok : SurveyOk s) (hk : k < s.legs.length) : mclo s (k : Int) = (mclW s k, true) := by
  unfold mclo inL
  rw [surveyOk_iff.2 ok, decide_eq_true (show (0 : Int) ≤ (k : Int) by omega), decide_eq_true (show (k : Int) < (s.legs.length : Int) by omega)]; rfl
/-- Does a survey close? -/
def clsB (s : Survey) : Bool := surveyOk s && (List.range s.legs.length).all fun k => z1 (mclW s k)
theorem l_implCloses {s : Survey} (h : s.legs.length ≤ 4611686018427387904) : p_impl_Closes s = some (clsB s) := by
  unfold p_impl_Closes clsB
  rw [show (⟨s.st, s.legs⟩ : Survey) = s from rfl, l_implSurveyValid h]
  cases hv : surveyOk s with
  | false => rfl
  | true =>
    have ok := surveyOk_iff.1 hv
    have n9 := ok.n9
    simp only [Option.bind_some, Bool.not_true, cond_false, Bool.true_and]
    rw [loop_all (B := p_impl_Closes_L0 s) (fun k => z1 (mclW s k)) s.legs.length false (fun k hk => by
      simp only [p_impl_Closes_L0]
      rw [decide_eq_true (by omega), show (⟨s.st, s.legs⟩ : Survey) = s from rfl, l_implMisclosure h, mclo_at ok hk, w64_succ (by omega)]
      simp only [cond_true, Option.bind_some]
      show cond (!(z1 (mclW s k))) _ _ = _
      cases z1 (mclW s k) <;> rfl) (by
      simp only [p_impl_Closes_L0]
      rw [decide_eq_false (by omega)]; rfl)]
    cases (List.range s.legs.length).all fun k => z1 (mclW s k) <;> rfl
theorem clsB_iff {s : Survey} (h : adjOk s = true) : clsB s = true ↔ fsum s (adj s).1 = 0 := by
  obtain ⟨ok, h1⟩ := adj_one h
  have a := closes_iff (c := Leg.e) h
  have b := closes_iff (c := Leg.n) h
  have c := closes_iff (c := Leg.u) h
  have a0 := fsd_nonneg (s := s) (d := tm s) (y := pA s Leg.e) (c := Leg.e)
  have b0 := fsd_nonneg (s := s) (d := tm s) (y := pA s Leg.n) (c := Leg.n)
  have c0 := fsd_nonneg (s := s) (d := tm s) (y := pA s Leg.u) (c := Leg.u)
  rw [fsum_adj h]
  unfold clsB
  rw [surveyOk_iff.2 ok, Bool.true_and, List.all_eq_true]
  constructor
  · intro hz
    have hz2 : ∀ k, k < s.legs.length → mcl s Leg.e k = 0 ∧ mcl s Leg.n k = 0 ∧ mcl s Leg.u k = 0 := fun k hk => by
      have := z1_iff.1 (hz k (List.mem_range.2 hk))
      unfold mclW at this
      have e1 := mcl_bd h dir_e hk
      have e2 := mcl_bd h dir_n hk
      have e3 := mcl_bd h dir_u hk
      rw [w64_i (by omega), w64_i (by omega), w64_i (by omega)] at this
      exact this
    have a1 := a.2 fun k hk => (hz2 k hk).1
    have b1 := b.2 fun k hk => (hz2 k hk).2.1
    have c1 := c.2 fun k hk => (hz2 k hk).2.2
    omega
  · intro hs k hk
    have hk := List.mem_range.1 hk
    have a1 := a.1 (by omega) k hk
    have b1 := b.1 (by omega) k hk
    have c1 := c.1 (by omega) k hk
    unfold mclW
    rw [a1, b1, c1]
    have h0 : w64 0 = 0 := w64_i (by omega)
    rw [h0]; rfl
end Go.Proofs.YtnibfmofkamjoaaDoor
