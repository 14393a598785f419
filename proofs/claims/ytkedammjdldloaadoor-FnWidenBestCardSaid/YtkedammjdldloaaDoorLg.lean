/- Wider mines as graphs; no condition. -/
import Derived.Test.YtkedammjdldloaaDoorLl
import Derived.Test.YtkedammjdldloaaDoorLz
namespace Go.Proofs.YtkedammjdldloaaDoor
open Go
set_option linter.unusedVariables false
set_option linter.unusedSimpArgs false

theorem wid_ab {m : Mine} {k : Int} (h : canW m k = true) : (eM (wid m k)).map (fun e => (e.a, e.b)) = (eM m).map (fun e => (e.a, e.b)) := by
  obtain ⟨h1, h2, h3, h4⟩ := canW_iff.1 h
  obtain ⟨j, rfl⟩ := Int.eq_ofNat_of_zero_le h2
  have hj : j < m.aw.length := by omega
  have hl : (wid m (j : Int)).aw.length = m.aw.length := by unfold wid; simp
  apply List.ext_getElem
  · simp [eM, hl]
  · intro i x1 x2
    have hi : i < m.aw.length := by simpa [eM] using x2
    simp only [eM, List.getElem_map]
    have e1 := wid_gx (m := m) (k := j) hi hj
    rw [gx_eq (by rw [hl]; exact hi), gx_eq (l := m.aw) hi, gx_eq (l := m.aw) hj] at e1
    rw [e1]
    split
    · rename_i hji; subst hji; rfl
    · rfl
theorem lnk_wid {m : Mine} {k : Int} (h : canW m k = true) : lnk (wid m k) = lnk m := by
  unfold lnk
  rw [mineOk_iff.2 (wid_ok h), (canW_iff.1 h).1, fj_ab (wid_ab h)]; rfl
theorem eM_wid {m : Mine} {k : Nat} (hk : k < m.aw.length) : eM (wid m k) = (eM m).set k { gx (eM m) k with w := (gx (eM m) k).w + 1 } := by
  unfold eM wid
  simp only [Int.toNat_natCast]
  rw [List.map_set, gx_of_map hk]; rfl
theorem lap_wid {m : Mine} {k : Nat} (hk : k < m.aw.length) {u v : Nat} : lap (eM (wid m k)) u v = lap (eM m) u v + xv (gx (eM m) k) u * xv (gx (eM m) k) v := by
  rw [eM_wid hk]
  unfold lap
  rw [es_set (by rw [eM_len]; exact hk)]
  have e1 : ∀ u, xv { gx (eM m) k with w := (gx (eM m) k).w + 1 } u = xv (gx (eM m) k) u := fun _ => rfl
  rw [e1, e1]; simp only; grind
end Go.Proofs.YtkedammjdldloaaDoor
