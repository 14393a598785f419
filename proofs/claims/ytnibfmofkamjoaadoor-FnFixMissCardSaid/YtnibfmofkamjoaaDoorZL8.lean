/- What fixes miss, squared and added: the adjusted survey misses least; no condition but the sizes. -/
import Derived.Test.YtnibfmofkamjoaaDoorZL4
namespace Go.Proofs.YtnibfmofkamjoaaDoor
open Go
set_option linter.unusedVariables false
set_option linter.unusedSimpArgs false

def mis (s : Survey) (d : Int) (y : Nat → Int) (c : Leg → Int) (k : Nat) : Int := d * c (gx s.legs k) + y (gx s.legs k).f.toNat - y (gx s.legs k).t.toNat
theorem leg_in {s : Survey} {k : Nat} (ok : SurveyOk s) (hk : k < s.legs.length) : (gx s.legs k).f.toNat ≤ mS s ∧ (gx s.legs k).t.toNat ≤ mS s := by
  have a := ok.lg k hk
  have a0 := a.f0; have a1 := a.f1; have a2 := a.t0; have a3 := a.t1
  unfold mS; omega
theorem mis_bd {s : Survey} {f : Fix} {c : Leg → Int} {y : Way → Int} {k : Nat} (ok : FixOk s f) (hc : Dir c) (hy : ∀ k, k < f.nums.length → -99999 ≤ y (gx f.nums k) ∧ y (gx f.nums k) ≤ 99999) (hk : k < s.legs.length) :
    -300000 ≤ mis s f.den (fun v => y (gx f.nums v)) c k ∧ mis s f.den (fun v => y (gx f.nums v)) c k ≤ 300000 := by
  have p1 := ok.sv.p1
  have ln := ok.ln
  have a := leg_in ok.sv hk
  have b1 := hc _ _ (ok.sv.lg k hk)
  have b2 := mul_bd ok.d1 ok.d9 b1.1 b1.2
  have b3 := hy (gx s.legs k).f.toNat (by unfold mS at a; omega)
  have b4 := hy (gx s.legs k).t.toNat (by unfold mS at a; omega)
  unfold mis; simp only; omega
theorem l_specFixMiss {s : Survey} {f : Fix} {k : Int} (h : s.legs.length ≤ 4611686018427387904) : p_spec_FixMiss s f k = some (fmiss s f k) := by
  unfold p_spec_FixMiss fmiss inL
  rw [show (⟨s.st, s.legs⟩ : Survey) = s from rfl, show (⟨f.den, f.nums⟩ : Fix) = f from rfl, l_specFixValid h, l_l1In, w64_i (x := ((s.legs.length : Nat) : Int) - 1) (by omega), show decide (k ≤ ((s.legs.length : Nat) : Int) - 1) = decide (k < ((s.legs.length : Nat) : Int)) by rw [decide_eq_decide]; omega]
  cases hv : fixOk s f with
  | false => rfl
  | true =>
    have ok := fixOk_to hv
    have n9 := ok.sv.n9
    simp only [Option.bind_some, Bool.not_true, cond_false, Bool.true_and]
    by_cases hk : 0 ≤ k ∧ k < (s.legs.length : Int)
    · obtain ⟨j, rfl⟩ := Int.eq_ofNat_of_zero_le hk.1
      have hj : j < s.legs.length := by omega
      have a := ok.sv.lg j hj
      obtain ⟨x, hx⟩ := Int.eq_ofNat_of_zero_le a.f0
      obtain ⟨y, hy⟩ := Int.eq_ofNat_of_zero_le a.t0
      have a1 := a.f1; have a2 := a.t1; have ln := ok.ln
      have hxl : x < f.nums.length := by omega
      have hyl : y < f.nums.length := by omega
      have b1 := mul_bd ok.d1 ok.d9 a.e0 a.e1
      have b2 := mul_bd ok.d1 ok.d9 a.n0 a.n1
      have b3 := mul_bd ok.d1 ok.d9 a.u0 a.u1
      have c1 := ok.e x hxl; have c2 := ok.n x hxl; have c3 := ok.u x hxl
      have c4 := ok.e y hyl; have c5 := ok.n y hyl; have c6 := ok.u y hyl
      rw [decide_eq_true hk.1, decide_eq_true hk.2]
      simp only [Bool.and_self, Bool.not_true, cond_false, if_true, Option.bind_some]
      rw [idx_at hj]
      simp only [p_spec_l1Way, p_spec_WayTimes, p_spec_WayAdd, Option.bind_some]
      rw [hx, hy, idx_at hxl, idx_at hyl]
      simp only [w64_add2, fmw, fmc, hx, hy, Int.toNat_natCast]
      rw [w64_i (x := f.den * (gx s.legs j).e) (by omega), w64_i (x := f.den * (gx s.legs j).n) (by omega), w64_i (x := f.den * (gx s.legs j).u) (by omega)]
      rw [w64_i (by omega), w64_i (by omega), w64_i (by omega)]
      simp only [Int.neg_mul, Int.one_mul, Int.sub_eq_add_neg]
    · have : (decide (0 ≤ k) && decide (k < (s.legs.length : Int))) = false := by rw [and_dec, decide_eq_false hk]
      rw [this]; rfl
theorem fmiss_at {s : Survey} {f : Fix} {k : Nat} (hv : fixOk s f = true) (hk : k < s.legs.length) : fmiss s f (k : Int) = (fmw s f k, true) := by
  unfold fmiss inL
  rw [hv, decide_eq_true (show (0 : Int) ≤ (k : Int) by omega), decide_eq_true (show (k : Int) < (s.legs.length : Int) by omega)]; rfl
end Go.Proofs.YtnibfmofkamjoaaDoor
