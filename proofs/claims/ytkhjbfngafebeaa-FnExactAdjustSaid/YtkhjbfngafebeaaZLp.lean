/- Forests, tree legs, and the spec's search for a way along them; no condition but the sizes. -/
import Derived.Test.YtkhjbfngafebeaaZNa
import Derived.Test.YtkhjbfngafebeaaZLk
import Derived.Test.YtkhjbfngafebeaaZQ
import Derived.Test.YtkhjbfngafebeaaZLw
namespace Go.Proofs.Ytkhjbfngafebeaa
open Go
set_option linter.unusedVariables false
set_option linter.unusedSimpArgs false

def lg (s : Survey) : List Ed := s.legs.map (eL c0)
theorem lg_gx {s : Survey} {k : Nat} (h : k < s.legs.length) : gx (lg s) k = eL c0 (gx s.legs k) := by unfold lg; rw [gx_of_map h]
theorem take_all {s : Survey} : (lg s).take s.legs.length = lg s := by
  have : (lg s).length = s.legs.length := by simp [lg]
  rw [← this, List.take_length]
def st (s : Survey) (x : Step) : Int := if x.b then (gx s.legs x.i.toNat).f else (gx s.legs x.i.toNat).t
theorem l_implParts {s : Survey} (h : s.legs.length ≤ 4611686018427387904) : p_impl_Parts s = some (if surveyOk s then pl s.st.toNat (sP s) else []) := by
  unfold p_impl_Parts
  rw [show (⟨s.st, s.legs⟩ : Survey) = s from rfl, l_implSurveyValid h]
  cases hv : surveyOk s with
  | false => rfl
  | true =>
    have ok := surveyOk_iff.1 hv
    have p1 := ok.p1; have p6 := ok.p6; have n9 := ok.n9
    obtain ⟨n, hn⟩ := Int.eq_ofNat_of_zero_le (show 0 ≤ s.st by omega)
    simp only [Option.bind_some, Bool.not_true, cond_false, if_true]
    rw [hn, l_ownParts (by omega)]
    simp only [Option.bind_some]
    rw [loop_to (B := p_impl_Parts_L0 s) (fun k => ((k : Int), pl n (fj pid ((lg s).take k)))) s.legs.length (by rfl) (e := pl n (sP s)) (fun k hk => by
      simp only [p_impl_Parts_L0]
      have a := ok.lg k hk
      obtain ⟨x, hx⟩ := Int.eq_ofNat_of_zero_le a.f0
      obtain ⟨y, hy⟩ := Int.eq_ofNat_of_zero_le a.t0
      have a1 := a.f1; have a2 := a.t1
      rw [decide_eq_true (by omega), idx_at hk, hx, hy, l_joinParts (by omega) (by omega) (by omega), w64_succ (by omega)]
      simp only [cond_true, Option.bind_some]
      have hg := lg_gx hk
      rw [fj_take (by unfold lg; rw [List.length_map]; exact hk), hg]
      have e2 : jP (fj pid ((lg s).take k)) (eL c0 (gx s.legs k)) = jab (fj pid ((lg s).take k)) x y := by rw [jP_jab]; unfold eL; simp [hx, hy]
      rw [e2]) (by
      simp only [p_impl_Parts_L0]
      rw [decide_eq_false (by omega), take_all]; rfl)]
    simp only [Option.bind_some, Int.toNat_natCast]
end Go.Proofs.Ytkhjbfngafebeaa
