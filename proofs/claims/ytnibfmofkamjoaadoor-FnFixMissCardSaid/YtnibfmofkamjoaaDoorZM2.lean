/- The law of what is missed around a loop, as a plain program; no condition. -/
import Derived.Test.YtnibfmofkamjoaaDoorZL6
import Derived.Test.YtnibfmofkamjoaaDoorZQ
namespace Go.Proofs.YtnibfmofkamjoaaDoor
open Go
set_option linter.unusedVariables false
set_option linter.unusedSimpArgs false

theorem t_drawFixMiss {code : List UInt8} : Tot (p_spec_DrawFixMiss code) fun r => r.1.legs.length ≤ 10 ∧ 0 ≤ r.1.st ∧ r.1.st ≤ 7 ∧ r.2.1.nums.length ≤ 10 := by
  unfold p_spec_DrawFixMiss
  obtain ⟨b, hb, hl⟩ := x_bopen (code := code)
  rw [hb]; simp only [Option.bind_some]
  refine Tot.bind (t_fix hl (by omega)) fun ⟨s, f, q⟩ h => ?_
  simp only at h ⊢
  refine Tot.bind (t_index hl (by omega) (by simp only; omega)) fun ⟨k, q'⟩ h2 => Tot.ret ?_
  simp only
  exact h.2.2
/-- The misses of legs as steps from place to place. -/
def Wm (s : Survey) (f : Fix) (c : Leg → Int) (y : Way → Int) (v : Int) : Int := f.den * yc s c v.toNat - y (gx f.nums v.toNat)
theorem wm_leg {s : Survey} {f : Fix} {c : Leg → Int} {y : Way → Int} {i : Int} (hi : i ∈ tl s) : fmc s f c y i.toNat = Wm s f c y (gx s.legs i.toNat).t - Wm s f c y (gx s.legs i.toNat).f := by
  have := yc_po (s := s) (c := c) i hi
  simp only at this
  unfold fmc Wm
  rw [← this]
  grind
theorem wm_step {s : Survey} {f : Fix} {c : Leg → Int} {y : Way → Int} {x : Step} (hi : x.i ∈ tl s) : (if x.b then - fmc s f c y x.i.toNat else fmc s f c y x.i.toNat) = Wm s f c y (st s x) - Wm s f c y (sf s x) := by
  have := wm_leg (f := f) (c := c) (y := y) hi
  unfold st sf
  cases x.b
  · simpa using this
  · simp only [if_true]; omega
theorem l_missLoop {s : Survey} {f : Fix} {t : Int} {l : List Step} (hl : l.length ≤ 1000) (hv : fixOk s f = true) : ∀ {rest : List Step} {v a b c : Int} {k : Nat}, l.drop k = rest → Wk s (tl s) v t rest →
    k ≤ l.length → loop (p_laws_FnFixMiss_L0 s f l) ((k : Int), w64 a, w64 b, w64 c) = some (w64 (a + (Wm s f Leg.e Way.e t - Wm s f Leg.e Way.e v)), w64 (b + (Wm s f Leg.n Way.n t - Wm s f Leg.n Way.n v)), w64 (c + (Wm s f Leg.u Way.u t - Wm s f Leg.u Way.u v)))
  | [], v, a, b, c, k, hd, hw, hk => by
    have : l.length ≤ k := List.drop_eq_nil_iff.1 hd
    have hw : v = t := hw
    subst hw
    exact loop_out (by
      simp only [p_laws_FnFixMiss_L0]
      rw [decide_eq_false (by omega)]
      simp)
  | x :: rest, v, a, b, c, k, hd, hw, hk => by
    obtain ⟨hk1, e1, e2⟩ := drop_cons hd
    obtain ⟨hin, hs, hw2⟩ := hw
    have ok := fixOk_to hv
    have hb := tl_mem _ hin
    obtain ⟨i, hi⟩ := Int.eq_ofNat_of_zero_le hb.1
    have he1 := wm_step (f := f) (c := Leg.e) (y := Way.e) hin
    have hn1 := wm_step (f := f) (c := Leg.n) (y := Way.n) hin
    have hh1 := wm_step (f := f) (c := Leg.u) (y := Way.u) hin
    rw [hs] at he1 hn1 hh1
    have hi2 : i < s.legs.length := by omega
    have m1 := mis_bd ok dir_e ok.e hi2
    have m2 := mis_bd ok dir_n ok.n hi2
    have m3 := mis_bd ok dir_u ok.u hi2
    have n9 := ok.sv.n9
    rw [loop_next (s' := (((k + 1 : Nat) : Int), w64 (a + (Wm s f Leg.e Way.e (st s x) - Wm s f Leg.e Way.e v)), w64 (b + (Wm s f Leg.n Way.n (st s x) - Wm s f Leg.n Way.n v)), w64 (c + (Wm s f Leg.u Way.u (st s x) - Wm s f Leg.u Way.u v)))) (by
      simp only [p_laws_FnFixMiss_L0]
      rw [decide_eq_true (by omega), idx_at hk1, e1, w64_succ (by omega), hi, show (⟨s.st, s.legs⟩ : Survey) = s from rfl, show (⟨f.den, f.nums⟩ : Fix) = f from rfl, l_implFixMiss (by omega), fmiss_at hv hi2]
      simp only [cond_true, Option.bind_some]
      rw [← he1, ← hn1, ← hh1, hi]
      simp only [Int.toNat_natCast]
      cases hb : x.b with
      | true =>
        simp only [p_impl_WayTimes, p_impl_WayAdd, cond_true, Option.bind_some, if_true, w64_add2, fmw, Int.mul_neg, Int.mul_one]
      | false =>
        have n1 : w64 (fmc s f Leg.e Way.e i) = fmc s f Leg.e Way.e i := w64_i (by unfold mis at m1; unfold fmc; simp only at m1; omega)
        have n2 : w64 (fmc s f Leg.n Way.n i) = fmc s f Leg.n Way.n i := w64_i (by unfold mis at m2; unfold fmc; simp only at m2; omega)
        have n3 : w64 (fmc s f Leg.u Way.u i) = fmc s f Leg.u Way.u i := w64_i (by unfold mis at m3; unfold fmc; simp only at m3; omega)
        simp only [p_impl_WayAdd, cond_false, Option.bind_some, Bool.false_eq_true, if_false, fmw]
        rw [← n1, ← n2, ← n3]
        simp only [w64_add2]
        rw [n1, n2, n3])]
    rw [l_missLoop hl hv e2 hw2 hk1]
    have tel : ∀ (a p q r : Int), a + (p - q) + (r - p) = a + (r - q) := fun a p q r => by omega
    rw [tel, tel, tel]
theorem l_FnFixMiss {code : List UInt8} : p_laws_FnFixMiss code = some true := by
  refine Tot.get ?_
  unfold p_laws_FnFixMiss
  refine Tot.condd (fun _ => Tot.ret rfl) (fun _ => ?_)
  refine Tot.bind t_drawFixMiss fun ⟨s, f, k⟩ ⟨hm, hp0, hp7, hn⟩ => ?_
  simp only at hm hp0 hp7 hn ⊢
  rw [show (⟨s.st, s.legs⟩ : Survey) = s from rfl, show (⟨f.den, f.nums⟩ : Fix) = f from rfl, l_implFixMiss (by omega), l_specFixMiss (by omega)]
  simp only [Option.bind_some, beq_self_eq_true, Bool.and_self, Bool.not_true, cond_false]
  by_cases hv : (fixOk s f && inL s k) = true
  · have e : fmiss s f k = (fmw s f k.toNat, true) := by unfold fmiss; rw [if_pos hv]
    rw [e]
    simp only [Bool.not_true, cond_false]
    rw [Bool.and_eq_true] at hv
    have ok := fixOk_to hv.1
    refine Tot.bind (l_implLoopSteps (by omega)) fun ⟨l, o⟩ ⟨h1, h2⟩ => ?_
    cases o with
    | false =>
      have : l = [] := h2 rfl
      subst this
      rw [loop_out (e := (0, 0, 0)) (by
        simp only [p_laws_FnFixMiss_L0]
        rfl), l_implMisclosure (by omega)]
      exact Tot.ret rfl
    | true =>
      obtain ⟨-, j, rfl, hj, r, rfl, w1, w2⟩ := h1 rfl
      rw [loop_next (s' := (((1 : Nat) : Int), w64 (fmc s f Leg.e Way.e j), w64 (fmc s f Leg.n Way.n j), w64 (fmc s f Leg.u Way.u j))) (by
        simp only [p_laws_FnFixMiss_L0]
        rw [decide_eq_true (by simp only [List.length_cons]; omega), show (0 : Int) = ((0 : Nat) : Int) from rfl, idx_at (by simp), gx_zero, show (⟨s.st, s.legs⟩ : Survey) = s from rfl, show (⟨f.den, f.nums⟩ : Fix) = f from rfl, l_implFixMiss (by omega), fmiss_at hv.1 hj]
        simp only [cond_true, Option.bind_some, p_impl_WayAdd, cond_false, fmw]
        rw [show ((0 : Nat) : Int) = 0 from rfl, Int.zero_add, Int.zero_add, Int.zero_add, Int.zero_add, w64_i (x := 1) (by omega)]; rfl)]
      rw [l_missLoop (by simp only [List.length_cons]; omega) hv.1 (show (⟨(j : Int), false⟩ :: r).drop 1 = r from rfl) w1 (by simp)]
      simp only [Option.bind_some]
      rw [l_implMisclosure (by omega), mclo_at ok.sv hj]
      simp only [Option.bind_some, Bool.not_true, cond_false, p_impl_WayTimes, mclW, w64_mulw]
      have key : ∀ (c : Leg → Int) (y : Way → Int), fmc s f c y j + (Wm s f c y (gx s.legs j).f - Wm s f c y (gx s.legs j).t) = mcl s c j * f.den := fun c y => by
        rw [mcl_yc hj]
        unfold fmc Wm
        grind
      rw [key, key, key]
      exact Tot.ret (by simp)
  · have e : fmiss s f k = (⟨0, 0, 0⟩, false) := by unfold fmiss; rw [if_neg hv]
    rw [e, l_alive]
    exact Tot.ret rfl
end Go.Proofs.YtnibfmofkamjoaaDoor
