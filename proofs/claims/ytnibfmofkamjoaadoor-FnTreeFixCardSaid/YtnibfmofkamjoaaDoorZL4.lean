/- What a fix misses of a leg, by both programs; no condition but the sizes. -/
import Derived.Test.YtnibfmofkamjoaaDoorZL3
import Derived.Test.YtnibfmofkamjoaaDoorZQ
namespace Go.Proofs.YtnibfmofkamjoaaDoor
open Go
set_option linter.unusedVariables false
set_option linter.unusedSimpArgs false

structure FixOk (s : Survey) (f : Fix) : Prop where
  sv : SurveyOk s
  d1 : 1 ≤ f.den
  d9 : f.den ≤ 999
  ln : (f.nums.length : Int) = s.st
  z : z1 (gx f.nums 0) = true
  e : ∀ k, k < f.nums.length → -99999 ≤ (gx f.nums k).e ∧ (gx f.nums k).e ≤ 99999
  n : ∀ k, k < f.nums.length → -99999 ≤ (gx f.nums k).n ∧ (gx f.nums k).n ≤ 99999
  u : ∀ k, k < f.nums.length → -99999 ≤ (gx f.nums k).u ∧ (gx f.nums k).u ≤ 99999
theorem fixOk_to {s : Survey} {f : Fix} (h : fixOk s f = true) : FixOk s f := by
  unfold fixOk at h
  simp only [Bool.and_eq_true, decide_eq_true_eq, List.all_eq_true, List.mem_range, wayB, wi] at h
  obtain ⟨h1, h2, h3, h4, h5, h6⟩ := h
  exact ⟨surveyOk_iff.1 h1, h2, h3, h4, h5, fun k hk => (h6 k hk).1, fun k hk => (h6 k hk).2.1, fun k hk => (h6 k hk).2.2⟩
def inL (s : Survey) (k : Int) : Bool := decide (0 ≤ k) && decide (k < (s.legs.length : Int))
/-- What a fix misses of a leg, in one direction. -/
def fmc (s : Survey) (f : Fix) (c : Leg → Int) (y : Way → Int) (k : Nat) : Int := f.den * c (gx s.legs k) + y (gx f.nums (gx s.legs k).f.toNat) - y (gx f.nums (gx s.legs k).t.toNat)
def fmw (s : Survey) (f : Fix) (k : Nat) : Way := ⟨fmc s f Leg.e Way.e k, fmc s f Leg.n Way.n k, fmc s f Leg.u Way.u k⟩
def fmiss (s : Survey) (f : Fix) (k : Int) : Way × Bool := if fixOk s f && inL s k then (fmw s f k.toNat, true) else (⟨0, 0, 0⟩, false)
theorem mul_bd {d x : Int} (h1 : 1 ≤ d) (h2 : d ≤ 999) (h3 : -99 ≤ x) (h4 : x ≤ 99) : -98901 ≤ d * x ∧ d * x ≤ 98901 := by
  have a := Int.mul_le_mul h2 (show x ≤ 99 from h4)
  constructor
  · have : d * (-99) ≤ d * x := Int.mul_le_mul_of_nonneg_left h3 (by omega)
    omega
  · have : d * x ≤ d * 99 := Int.mul_le_mul_of_nonneg_left h4 (by omega)
    omega
theorem l_implFixMiss {s : Survey} {f : Fix} {k : Int} (h : s.legs.length ≤ 4611686018427387904) : p_impl_FixMiss s f k = some (fmiss s f k) := by
  unfold p_impl_FixMiss fmiss inL
  rw [show (⟨s.st, s.legs⟩ : Survey) = s from rfl, show (⟨f.den, f.nums⟩ : Fix) = f from rfl, l_implFixValid h, l_isIndex]
  cases hv : fixOk s f with
  | false => rfl
  | true =>
    have ok := fixOk_to hv
    have n9 := ok.sv.n9
    simp only [Option.bind_some, Bool.not_true, cond_false, Bool.true_and]
    by_cases hk : 0 ≤ k ∧ k < (s.legs.length : Int)
    · obtain ⟨j, rfl⟩ := Int.eq_ofNat_of_zero_le hk.1
      have hj : j < s.legs.length := by omega
      have a := ok.sv.lg j hj
      obtain ⟨x, hx⟩ := Int.eq_ofNat_of_zero_le a.f0
      obtain ⟨y, hy⟩ := Int.eq_ofNat_of_zero_le a.t0
      have a1 := a.f1; have a2 := a.t1; have ln := ok.ln
      have hxl : x < f.nums.length := by omega
      have hyl : y < f.nums.length := by omega
      have b1 := mul_bd ok.d1 ok.d9 a.e0 a.e1
      have b2 := mul_bd ok.d1 ok.d9 a.n0 a.n1
      have b3 := mul_bd ok.d1 ok.d9 a.u0 a.u1
      have c1 := ok.e x hxl; have c2 := ok.n x hxl; have c3 := ok.u x hxl
      have c4 := ok.e y hyl; have c5 := ok.n y hyl; have c6 := ok.u y hyl
      rw [decide_eq_true hk.1, decide_eq_true hk.2]
      simp only [Bool.and_self, Bool.not_true, cond_false, if_true, Option.bind_some]
      rw [idx_at hj]
      simp only [p_impl_legWay, p_impl_WayTimes, p_impl_WayAdd, Option.bind_some]
      rw [hx, hy, idx_at hxl, idx_at hyl]
      simp only [w64_add2, fmw, fmc, hx, hy, Int.toNat_natCast]
      rw [Int.mul_comm _ f.den, Int.mul_comm _ f.den, Int.mul_comm _ f.den, w64_i (x := f.den * (gx s.legs j).e) (by omega), w64_i (x := f.den * (gx s.legs j).n) (by omega), w64_i (x := f.den * (gx s.legs j).u) (by omega)]
      rw [w64_i (by omega), w64_i (by omega), w64_i (by omega)]
      simp only [Int.mul_neg, Int.mul_one, Int.sub_eq_add_neg]
    · have : (decide (0 ≤ k) && decide (k < (s.legs.length : Int))) = false := by rw [and_dec, decide_eq_false hk]
      rw [this]; rfl
end Go.Proofs.YtnibfmofkamjoaaDoor
