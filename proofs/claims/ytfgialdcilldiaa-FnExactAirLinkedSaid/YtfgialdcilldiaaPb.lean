/- Plain functions: marks, wider mines. -/
import Derived.Test.YtfgialdcilldiaaKt
namespace Go.Proofs.Ytfgialdcilldiaa
open Go
set_option linter.unusedVariables false
set_option linter.unusedSimpArgs false

theorem one_aw {l : List Airway} : ∀ e ∈ l.map encAirway, ∀ u ∈ e, u.oneCell' = true := by
  intro e he; obtain ⟨x, _, rfl⟩ := List.mem_map.1 he; simp [encAirway, Value.oneCell']
theorem one_sill {l : List Sill} : ∀ e ∈ l.map encSill, ∀ u ∈ e, u.oneCell' = true := by
  intro e he; obtain ⟨x, _, rfl⟩ := List.mem_map.1 he; simp [encSill, Value.oneCell']
theorem one_int {l : List Int} : ∀ e ∈ l.map encI, ∀ u ∈ e, u.oneCell' = true := by
  intro e he; obtain ⟨x, _, rfl⟩ := List.mem_map.1 he; simp [encI, Value.oneCell']

def markA (n : Nat) (k : Int) : List Airway := (List.range n).map (fun i : Nat => ⟨k + 3 * (i : Int), k + 3 * (i : Int) + 1, k + 3 * (i : Int) + 1 + 1⟩)
theorem markA_len {n : Nat} {k : Int} : (markA n k).length = n := by simp [markA]
theorem gx_range {α : Type} [Inhabited α] {n i : Nat} {f : Nat → α} (h : i < n) : gx ((List.range n).map f) i = f i := by
  unfold gx; simp [h]
theorem markA_gx {n i : Nat} {k : Int} (h : i < n) : gx (markA n k) i = ⟨k + 3 * (i : Int), k + 3 * (i : Int) + 1, k + 3 * (i : Int) + 1 + 1⟩ := by
  unfold markA; rw [gx_range h]
def markI (n : Nat) (k : Int) : List Int := (List.range n).map (fun i : Nat => k + (i : Int))
theorem markI_len {n : Nat} {k : Int} : (markI n k).length = n := by simp [markI]
theorem markI_gx {n i : Nat} {k : Int} (h : i < n) : gx (markI n k) i = k + i := by
  unfold markI; rw [gx_range h]
def markS (n : Nat) (k : Int) : List Sill := (List.range n).map (fun i : Nat => ⟨k + 3 * (i : Int), k + 3 * (i : Int) + 1, k + 3 * (i : Int) + 1 + 1⟩)
theorem markS_len {n : Nat} {k : Int} : (markS n k).length = n := by simp [markS]
theorem markS_gx {n i : Nat} {k : Int} (h : i < n) : gx (markS n k) i = ⟨k + 3 * (i : Int), k + 3 * (i : Int) + 1, k + 3 * (i : Int) + 1 + 1⟩ := by
  unfold markS; rw [gx_range h]

theorem markA_get {n i : Nat} {k : Int} (h : i < n) : ((markA n k).map encAirway)[i]? = some (encAirway ⟨k + 3 * (i : Int), k + 3 * (i : Int) + 1, k + 3 * (i : Int) + 1 + 1⟩) := by
  rw [gx_map (by rw [markA_len]; exact h), markA_gx h]
theorem markS_get {n i : Nat} {k : Int} (h : i < n) : ((markS n k).map encSill)[i]? = some (encSill ⟨k + 3 * (i : Int), k + 3 * (i : Int) + 1, k + 3 * (i : Int) + 1 + 1⟩) := by
  rw [gx_map (by rw [markS_len]; exact h), markS_gx h]
theorem markI_get {n i : Nat} {k : Int} (h : i < n) : ((markI n k).map encI)[i]? = some (encI (k + (i : Int))) := by
  rw [gx_map (by rw [markI_len]; exact h), markI_gx h]

structure WidenOk (p : Int) (l : List Airway) (i : Int) : Prop where
  ok : MineOk p l
  i0 : 0 ≤ i
  i1 : i < l.length
  nw : (gx l i.toNat).w ≠ 6
def widenL (l : List Airway) (i : Nat) : List Airway := l.set i ⟨(gx l i).f, (gx l i).t, (gx l i).w + 1⟩
noncomputable def widenR (p : Int) (l : List Airway) (i : Int) : List Airway := if dec (WidenOk p l i) then widenL l i.toNat else []
noncomputable def widenP (p : Int) (l : List Airway) (i : Int) : Int := if dec (WidenOk p l i) then p else 0
theorem widenL_len {l : List Airway} {i : Nat} : (widenL l i).length = l.length := by simp [widenL]
theorem widenR_t {p : Int} {l : List Airway} {i : Int} (h : WidenOk p l i) : widenR p l i = widenL l i.toNat := by simp [widenR, dec_t h]
theorem widenR_f {p : Int} {l : List Airway} {i : Int} (h : ¬ WidenOk p l i) : widenR p l i = [] := by simp [widenR, dec_f h]
theorem widenP_t {p : Int} {l : List Airway} {i : Int} (h : WidenOk p l i) : widenP p l i = p := by simp [widenP, dec_t h]
theorem widenP_f {p : Int} {l : List Airway} {i : Int} (h : ¬ WidenOk p l i) : widenP p l i = 0 := by simp [widenP, dec_f h]
end Go.Proofs.Ytfgialdcilldiaa
