/- Loops that legs close, by how much a leg misses its end, whether a survey closes; no condition but the sizes. -/
import Derived.Test.YtnibfmofkamjoaaDoorZL5
import Derived.Test.YtnibfmofkamjoaaDoorZL9
import Derived.Test.YtnibfmofkamjoaaDoorZQ
namespace Go.Proofs.YtnibfmofkamjoaaDoor
open Go
set_option linter.unusedVariables false
set_option linter.unusedSimpArgs false

theorem l_Contains {l : List Int} {x : Int} (h : l.length ≤ 1000000) : p_slices_Contains_int_int l x = some (decide (x ∈ l)) := by
  unfold p_slices_Contains_int_int p_slices_Index_int_int
  have key : Tot (loop (p_slices_Index_int_int_L0 l x) 0 : O (Unit ⊕ Int)) fun r => match r with | .inr w => 0 ≤ w ∧ x ∈ l | .inl _ => x ∉ l := by
    refine Tot.loop (fun z => ∃ k : Nat, z = (k : Int) ∧ k ≤ l.length ∧ ∀ i, i < k → gx l i ≠ x) (fun z => l.length - z.toNat) (fun z hz => ?_) ⟨0, rfl, Nat.zero_le _, fun i hi => by omega⟩
    obtain ⟨k, rfl, hk, hne⟩ := hz
    simp only [p_slices_Index_int_int_L0]
    refine Tot.condd (fun h1 => ?_) (fun h1 => Tot.ret ?_)
    · have hk1 : k < l.length := by omega
      rw [idx_at hk1]
      refine Tot.cond (fun h2 => Tot.ret ⟨by omega, ?_⟩) (fun h2 => Tot.ret ?_)
      · rw [beq_iff_eq.1 h2]; exact gx_mem hk1
      · rw [w64_succ (by omega)]
        refine ⟨⟨k + 1, rfl, by omega, fun i hi => ?_⟩, by omega⟩
        by_cases c : i = k
        · subst c; exact fun e => beq_eq_false_iff_ne.1 h2 e.symm
        · exact hne i (by omega)
    · intro hx
      obtain ⟨i, hi, e⟩ := mem_gx hx
      exact hne i (by omega) e
  obtain ⟨r, e, hr⟩ := key
  rw [e]
  cases r with
  | inr w => simp only [Option.bind_some, decide_eq_true hr.1, decide_eq_true hr.2]
  | inl u => simp only [Option.bind_some, decide_eq_false hr]; rfl
/-- What the loop of a leg is. -/
def Lps (s : Survey) (k : Int) (r : List Step × Bool) : Prop := r.2 = true → surveyOk s = true ∧ ∃ j : Nat, k = (j : Int) ∧ j < s.legs.length ∧ ∃ l, r.1 = ⟨(j : Int), false⟩ :: l ∧ Wk s (tl s) (gx s.legs j).t (gx s.legs j).f l ∧ l.length ≤ 64
theorem l_implLoopSteps {s : Survey} {k : Int} (h : s.legs.length ≤ 4611686018427387904) : Tot (p_impl_LoopSteps s k) fun r => Lps s k r ∧ (r.2 = false → r.1 = []) := by
  unfold p_impl_LoopSteps
  rw [show (⟨s.st, s.legs⟩ : Survey) = s from rfl, l_implSurveyValid h, l_isIndex, l_implTreeLegs h]
  cases hv : surveyOk s with
  | false => exact Tot.ret ⟨fun h => (by cases h), fun _ => rfl⟩
  | true =>
    have ok := surveyOk_iff.1 hv
    have p1 := ok.p1; have p6 := ok.p6; have n9 := ok.n9
    simp only [Option.bind_some, Bool.not_true, cond_false, if_true]
    by_cases hk : 0 ≤ k ∧ k < (s.legs.length : Int)
    · obtain ⟨j, rfl⟩ := Int.eq_ofNat_of_zero_le hk.1
      have hj : j < s.legs.length := by omega
      rw [decide_eq_true hk.1, decide_eq_true hk.2]
      have := tl_few ok
      rw [l_Contains (by omega)]
      simp only [Bool.and_self, Bool.not_true, Option.bind_some, cond_false]
      refine Tot.cond (fun _ => Tot.ret ⟨fun h => (by cases h), fun _ => rfl⟩) (fun _ => ?_)
      have a := ok.lg j hj
      obtain ⟨x, hx⟩ := Int.eq_ofNat_of_zero_le a.f0
      obtain ⟨y, hy⟩ := Int.eq_ofNat_of_zero_le a.t0
      have a1 := a.f1; have a2 := a.t1
      rw [idx_at hj, hx, hy]
      refine Tot.bind (l_implTreeWay ok (by omega) (by omega)) fun ⟨l, o⟩ hr => ?_
      refine Tot.cond (fun _ => Tot.ret ⟨fun h => (by cases h), fun _ => rfl⟩) (fun h1 => ?_)
      simp only [Bool.not_eq_false'] at h1
      simp only at hr
      obtain ⟨w1, w2⟩ := hr.1 h1
      refine Tot.need (by simp only [List.length_cons, List.length_nil]; omega) (Tot.ret ⟨fun _ => ⟨hv, j, rfl, hj, l, rfl, by rw [hx, hy]; exact w1, w2⟩, fun h => (by cases h)⟩)
    · have : (decide (0 ≤ k) && decide (k < (s.legs.length : Int))) = false := by rw [and_dec, decide_eq_false hk]
      rw [this]; exact Tot.ret ⟨fun h => (by cases h), fun _ => rfl⟩
theorem w64_mulw (m d : Int) : w64 (w64 m * d) = w64 (m * d) := by
  obtain ⟨k1, e1, a1, b1⟩ := w64_mod m
  obtain ⟨k2, e2, a2, b2⟩ := w64_mod (w64 m * d)
  obtain ⟨k3, e3, a3, b3⟩ := w64_mod (m * d)
  have : w64 m * d = m * d - 18446744073709551616 * (k1 * d) := by rw [e1]; grind
  rw [this] at e2 a2 b2 ⊢
  generalize k1 * d = q at *
  generalize m * d = p at *
  omega
/-- By how much a leg misses its end. -/
def mclW (s : Survey) (k : Nat) : Way := ⟨w64 (mcl s Leg.e k), w64 (mcl s Leg.n k), w64 (mcl s Leg.u k)⟩
def mclo (s : Survey) (k : Int) : Way × Bool := if surveyOk s && inL s k then (mclW s k.toNat, true) else (⟨0, 0, 0⟩, false)
theorem tpl_at {s : Survey} {v : Int} (ok : SurveyOk s) (h : 0 ≤ v ∧ v < s.st) : tpl s v = (plW s v.toNat, true) := by
  unfold tpl inSt
  rw [surveyOk_iff.2 ok, decide_eq_true h.1, decide_eq_true h.2]; rfl
theorem w64_mis {a b c : Int} (hb : -1000 ≤ b ∧ b ≤ 1000) : w64 (w64 (w64 a + b) + w64 (w64 c * (-1))) = w64 (a + b - c) := by
  have e := w64_i (x := b) (by omega)
  have e1 : w64 (w64 a + b) = w64 (a + b) := by
    have := w64_add2 a b
    rw [e] at this; exact this
  rw [e1, w64_mulw, w64_add2, Int.mul_neg, Int.mul_one, ← Int.sub_eq_add_neg]
theorem l_implMisclosure {s : Survey} {k : Int} (h : s.legs.length ≤ 4611686018427387904) : p_impl_Misclosure s k = some (mclo s k) := by
  unfold p_impl_Misclosure mclo inL
  rw [show (⟨s.st, s.legs⟩ : Survey) = s from rfl, l_implSurveyValid h, l_isIndex]
  cases hv : surveyOk s with
  | false => rfl
  | true =>
    have ok := surveyOk_iff.1 hv
    have p1 := ok.p1; have p6 := ok.p6; have n9 := ok.n9
    simp only [Option.bind_some, Bool.not_true, cond_false, Bool.true_and]
    by_cases hk : 0 ≤ k ∧ k < (s.legs.length : Int)
    · obtain ⟨j, rfl⟩ := Int.eq_ofNat_of_zero_le hk.1
      have hj : j < s.legs.length := by omega
      rw [decide_eq_true hk.1, decide_eq_true hk.2]
      have a := ok.lg j hj
      simp only [Bool.and_self, Bool.not_true, cond_false, if_true, Option.bind_some]
      have b1 := a.e0; have b2 := a.e1; have b3 := a.n0; have b4 := a.n1; have b5 := a.u0; have b6 := a.u1
      rw [idx_at hj, l_implTreePlace h, l_implTreePlace h, tpl_at ok ⟨a.f0, a.f1⟩, tpl_at ok ⟨a.t0, a.t1⟩]
      simp only [p_impl_legWay, p_impl_WayTimes, p_impl_WayAdd, Option.bind_some, plW]
      rw [w64_mis (by omega), w64_mis (by omega), w64_mis (by omega)]
      rfl
    · have : (decide (0 ≤ k) && decide (k < (s.legs.length : Int))) = false := by rw [and_dec, decide_eq_false hk]
      rw [this]; rfl
theorem mclo_at {s : Survey} {k : Nat} (ok : SurveyOk s) (hk : k < s.legs.length) : mclo s (k : Int) = (mclW s k, true) := by
  unfold mclo inL
  rw [surveyOk_iff.2 ok, decide_eq_true (show (0 : Int) ≤ (k : Int) by omega), decide_eq_true (show (k : Int) < (s.legs.length : Int) by omega)]; rfl
end Go.Proofs.YtnibfmofkamjoaaDoor
