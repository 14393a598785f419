/- Linked mines, and their trees as a determinant: both programs compute the same; no condition but the sizes. -/
import Derived.Test.YtnibfmofkamjoaaDoorLc
import Derived.Test.YtnibfmofkamjoaaDoorLd
import Derived.Test.YtnibfmofkamjoaaDoorLk
import Derived.Test.YtnibfmofkamjoaaDoorLw
import Derived.Test.YtnibfmofkamjoaaDoorQbp
import Derived.Test.YtnibfmofkamjoaaDoorQbd
import Derived.Test.YtnibfmofkamjoaaDoorNa
namespace Go.Proofs.YtnibfmofkamjoaaDoor
open Go
set_option linter.unusedVariables false
set_option linter.unusedSimpArgs false

/-- An airway as a leg of a graph. -/
def eA (a : Airway) : Ed := ⟨a.f.toNat, a.t.toNat, 0, a.w⟩
def eM (m : Mine) : List Ed := m.aw.map eA
def mm (m : Mine) : Nat := m.p.toNat - 1
/-- All places of a valid mine are linked. -/
def lnk (m : Mine) : Bool := mineOk m && one (mm m) (fj pid (eM m))
theorem eM_len {m : Mine} : (eM m).length = m.aw.length := by simp [eM]
theorem eM_gx {m : Mine} {k : Nat} (h : k < m.aw.length) : gx (eM m) k = eA (gx m.aw k) := gx_of_map h
theorem mine_in {m : Mine} (ok : MineOk m) : Inm (mm m) (eM m) := fun e he => by
  obtain ⟨k, hk, rfl⟩ := mem_gx he
  rw [eM_len] at hk
  have a := ok.aw k hk
  have := a.f0; have := a.f1; have := a.t0; have := a.t1; have := ok.p1
  rw [eM_gx hk]; unfold eA mm; simp only; omega
theorem mine_w {m : Mine} (ok : MineOk m) : ∀ e ∈ eM m, 0 < e.w := fun e he => by
  obtain ⟨k, hk, rfl⟩ := mem_gx he
  rw [eM_len] at hk
  have := (ok.aw k hk).w1
  rw [eM_gx hk]; unfold eA; simp only; omega
theorem mine_w6 {m : Mine} (ok : MineOk m) : ∀ e ∈ eM m, 0 ≤ e.w ∧ e.w ≤ 6 := fun e he => by
  obtain ⟨k, hk, rfl⟩ := mem_gx he
  rw [eM_len] at hk
  have := (ok.aw k hk).w1
  have := (ok.aw k hk).w6
  rw [eM_gx hk]; unfold eA; simp only; omega
theorem lnk_conn {m : Mine} : lnk m = true ↔ mineOk m = true ∧ Conn (mm m) (eM m) := by
  unfold lnk; rw [Bool.and_eq_true, conn_iff]
/-- The survey of a mine. -/
def sM (m : Mine) : Survey := ⟨m.p, m.aw.map fun a => ⟨a.f, a.t, 0, 0, 0⟩⟩
theorem sM_len {m : Mine} : (sM m).legs.length = m.aw.length := by simp [sM]
theorem sM_gx {m : Mine} {k : Nat} (h : k < m.aw.length) : gx (sM m).legs k = ⟨(gx m.aw k).f, (gx m.aw k).t, 0, 0, 0⟩ := gx_of_map (f := fun a : Airway => (⟨a.f, a.t, 0, 0, 0⟩ : Leg)) h
theorem sM_ok {m : Mine} (ok : MineOk m) : SurveyOk (sM m) := by
  have p1 := ok.p1; have p5 := ok.p5; have n7 := ok.n7
  refine ⟨p1, by show m.p ≤ 6; omega, by rw [sM_len]; omega, fun k hk => ?_⟩
  rw [sM_len] at hk
  have a := ok.aw k hk
  rw [sM_gx hk]
  exact ⟨a.f0, a.f1, a.t0, a.t1, a.ne, by simp only; omega, by simp only; omega, by simp only; omega, by simp only; omega, by simp only; omega, by simp only; omega⟩
theorem sM_ab {m : Mine} : ((sM m).legs.map (eL c0)).map (fun e => (e.a, e.b)) = (eM m).map (fun e => (e.a, e.b)) := by
  unfold sM eM; simp only [List.map_map]; rfl
/-! ### Trees -/
theorem lk_lap {p : Int} {a : Airway} (h : AwOk p a) {i j : Nat} : lk a i j = (eA a).w * xv (eA a) (i + 1) * xv (eA a) (j + 1) := by
  have f0 := h.f0; have t0 := h.t0; have ne := h.ne
  unfold lk eA xv
  simp only
  have e1 : ∀ x : Int, 0 ≤ x → ∀ k : Nat, (x = (k : Int) + 1 ↔ x.toNat = k + 1) := fun x hx k => by omega
  simp only [e1 _ f0, e1 _ t0]
  have hne : a.f.toNat ≠ a.t.toNat := by omega
  by_cases hij : i = j
  · subst hij
    simp only [if_true]
    by_cases c1 : a.f.toNat = i + 1 <;> by_cases c2 : a.t.toNat = i + 1 <;> simp [c1, c2] <;> omega
  · simp only [hij, if_false]
    by_cases c1 : a.f.toNat = i + 1 <;> by_cases c2 : a.t.toNat = i + 1 <;> by_cases c3 : a.f.toNat = j + 1 <;> by_cases c4 : a.t.toNat = j + 1 <;> simp [c1, c2, c3, c4, hij, Ne.symm hij] <;> omega
theorem lks_lap : ∀ {l : List Airway} {p : Int} {i j : Nat}, (∀ a ∈ l, AwOk p a) → lks l i j = lap (l.map eA) (i + 1) (j + 1)
  | [], _, _, _, _ => rfl
  | a :: l, p, i, j, h => by
    have ih := lks_lap (l := l) (p := p) (i := i) (j := j) (fun x hx => h x (List.mem_cons_of_mem _ hx))
    show lk a i j + lks l i j = _
    rw [ih, lk_lap (h a List.mem_cons_self)]; rfl
theorem ok_mem {m : Mine} (ok : MineOk m) : ∀ a ∈ m.aw, AwOk m.p a := fun a ha => by
  obtain ⟨k, hk, rfl⟩ := mem_gx ha
  exact ok.aw k hk
theorem airM_ok {m : Mine} (ok : MineOk m) : airM m = tab (mm m) (L0 (eM m)) := by
  unfold airM
  rw [if_pos (mineOk_iff.2 ok)]
  have : (m.p - 1).toNat = mm m := by unfold mm; omega
  rw [this]
  exact tab_ext fun i j hi hj => lks_lap (ok_mem ok)
theorem L0_bd {m : Mine} (ok : MineOk m) (i j : Nat) : -42 ≤ L0 (eM m) i j ∧ L0 (eM m) i j ≤ 42 := by
  have h := lks_bd (l := m.aw) (p := m.p) ok.aw i j
  rw [lks_lap (ok_mem ok)] at h
  have := ok.n7
  unfold L0 eM; omega
/-- The trees of a mine, each by the product of its widths. -/
def tr (m : Mine) : Int := if mineOk m then D (mm m) (eM m) else -1
theorem det_airM {m : Mine} (ok : MineOk m) : det (airM m) = D (mm m) (eM m) := by
  have p5 := ok.p5
  rw [airM_ok ok]
  exact det_tab (by unfold mm; omega) (fun i hi j hj => by have := L0_bd ok i j; omega)
theorem airM_rows {m : Mine} : (airM m).length ≤ 4611686018427387904 ∧ ∀ k, k < (airM m).length → (gx (airM m) k).length ≤ 4611686018427387904 := by
  unfold airM
  split
  · rename_i h
    have ok := mineOk_iff.1 h
    have p5 := ok.p5
    refine ⟨by rw [tab_len]; omega, fun k hk => ?_⟩
    rw [tab_len] at hk
    rw [tab_gx hk, row1_len]; omega
  · exact ⟨by simp, fun k hk => by simp at hk⟩
theorem tr_pos {m : Mine} : 0 < tr m ↔ lnk m = true := by
  rw [lnk_conn]
  unfold tr
  by_cases h : mineOk m = true
  · rw [if_pos h, D_pos (mine_in (mineOk_iff.1 h)) (mine_w (mineOk_iff.1 h))]; simp [h]
  · rw [if_neg h]; simp [h]
theorem tr_le {m : Mine} : tr m ≤ 823543 := by
  unfold tr
  split
  · rename_i h
    have ok := mineOk_iff.1 h
    have h1 := D_le (mine_in ok) (fun e he => (mine_w6 ok e he).1)
    have h2 := pw_le (E := eM m) (n := 7) (c := 6) (by rw [eM_len]; exact ok.n7) (mine_w6 ok) (by omega)
    have : ((1 : Int) + 6) ^ 7 = 823543 := by decide
    omega
  · omega
end Go.Proofs.YtnibfmofkamjoaaDoor
