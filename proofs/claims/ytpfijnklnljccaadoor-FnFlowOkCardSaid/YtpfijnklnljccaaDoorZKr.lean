/- From what a row says of its arguments to chunks of memory; no condition on the program. -/
import Derived.Test.YtpfijnklnljccaaDoorZKa
import Derived.ProofKit
import Derived.OpenShut
import Derived.ChangeOld
import Derived.Below
import Derived.Deep.Slices
import Derived.Deep.Fields
namespace Go.Proofs.YtpfijnklnljccaaDoor
open Go Go.ChangeShapes Go.WideShapes Go.ChangeAt Go.RowKit

theorem below_of_ext {w w' : World} {ch : List Chunk} (h : Ext w [] w' ch) : Below w.heap.size w w' :=
  ⟨h.env.1, h.env.2.1, h.env.2.2, h.size, fun k hk => h.keep k hk (fun c hc => by cases hc)⟩

theorem St.reads {W : World} {ro : List Chunk} (h : ∀ c ∈ ro, c.ok W false) : St W ro [] :=
  { rok := h, wok := fun c hc => (by cases hc), pw := List.Pairwise.nil, rs := fun c _ d hd => (by cases hd) }

theorem cells?_le {W : World} {a : Addr} {n : Nat} {cs : List Value} (h : W.cells? 0 a n = some cs) : cs.length = n ∧ ∀ j v, cs[j]? = some v → W.cell? (a.add j) = some v := by
  obtain ⟨_, hlen, hcell⟩ := World.cells?_some h
  refine ⟨hlen, fun j v hj => ?_⟩
  have hlt := (List.getElem?_eq_some_iff.1 hj).1
  have := hcell j (by omega)
  rw [this]
  exact hj

/-- Cells of one block, seen from its first one. -/
theorem row_of_cells {W : World} {a : Addr} {n : Nat} (hn : 0 < n) (h : ∀ j, j < n → ∃ v, W.cell? (a.add j) = some v) :
    a.spot = none ∧ ∃ arr el fz, W.heap[a.block]? = some (.cells arr el fz) ∧ a.off + n ≤ arr.size ∧ ∀ j v, j < n → W.cell? (a.add j) = some v → arr[a.off + j]? = some v := by
  obtain ⟨v0, h0⟩ := h 0 hn
  have e0 : a.add 0 = a := by simp [Addr.add]
  rw [e0] at h0
  obtain ⟨b, o, s⟩ := a
  unfold World.cell? at h0
  simp only at h0
  split at h0
  · rename_i arr el fz hh
    split at h0
    · cases h0
    · rename_i hs
      have hs' : s = none := by cases s <;> simp_all
      subst hs'
      refine ⟨rfl, arr, el, fz, hh, ?_, ?_⟩
      · obtain ⟨v, hv⟩ := h (n - 1) (by omega)
        rw [add_mk] at hv
        simp only [World.cell?, hh, Option.isSome_none, Bool.false_eq_true, if_false] at hv
        have := (Array.getElem?_eq_some_iff.1 hv).1
        show o + n ≤ arr.size
        omega
      · intro j v hj hv
        rw [add_mk] at hv
        simp only [World.cell?, hh, Option.isSome_none, Bool.false_eq_true, if_false] at hv
        exact hv
  · cases h0

section
variable {H : Type} {enc : TypeId × Value → H} {P : Program} {W : World}

/-- A slice that came in, its elements read as cells. -/
theorem slice_chunk {t e sz : Nat} {fuel : Nat} {a : Option Addr} {n c : Nat} {x : DataW H × List MemPlace} {α : Type} (enc1 : α → List Value) (ht : P.underlying t = some (.slice e)) (hc : P.cellsOf e = sz) (hp : 0 < sz)
    (hel : ∀ m cs y, cs.length = sz → DataW.trod enc P W 0 (fun _ => true) true m e cs = some y → ∃ v : α, cs = enc1 v)
    (h : DataW.trod enc P W 0 (fun _ => true) true fuel t [.slice a n c] = some x) :
    n ≤ maxLen ∧ ∃ l : List α, l.length = n ∧ (⟨.slice a n c, sz, l.map enc1⟩ : Chunk).ok W false := by
  rcases Go.Deep.open_slice ht h with ⟨hcs, _⟩ | ⟨ad, len, cap, m, k, D, Pl, hcs, _, hl, hm, hmm, _, hx⟩
  · simp only [List.cons.injEq, Value.slice.injEq, and_true] at hcs
    obtain ⟨rfl, rfl, rfl⟩ := hcs
    exact ⟨Nat.zero_le _, [], rfl, hp, by simp, rfl, rfl, rfl⟩
  · simp only [List.cons.injEq, Value.slice.injEq, and_true] at hcs
    obtain ⟨rfl, rfl, rfl⟩ := hcs
    simp only [if_true] at hmm
    subst hmm
    rw [hc] at hx
    have hone : ∀ i, i < m → ∃ v : α, ∀ j u, (enc1 v)[j]? = some u → W.cell? (ad.add (i * sz + j)) = some u := by
      intro i hi
      obtain ⟨cs, h1, h2⟩ := hx i hi
      obtain ⟨hlen, hcell⟩ := cells?_le h1
      obtain ⟨v, rfl⟩ := hel _ _ _ hlen h2
      refine ⟨v, fun j u hj => ?_⟩
      have := hcell j u hj
      rwa [Go.Deep.add_add] at this
    have hlen1 : ∀ i, i < m → ∃ v : α, (enc1 v).length = sz ∧ ∀ j u, (enc1 v)[j]? = some u → W.cell? (ad.add (i * sz + j)) = some u := by
      intro i hi
      obtain ⟨cs, h1, h2⟩ := hx i hi
      obtain ⟨hlen, hcell⟩ := cells?_le h1
      obtain ⟨v, rfl⟩ := hel _ _ _ hlen h2
      refine ⟨v, hlen, fun j u hj => ?_⟩
      have := hcell j u hj
      rwa [Go.Deep.add_add] at this
    refine ⟨by omega, ?_⟩
    -- all elements up to the capacity
    have hall : ∀ k, k ≤ m → ∃ l : List α, l.length = k ∧ (∀ v ∈ l, (enc1 v).length = sz) ∧ ∀ i v, l[i]? = some v → ∀ j u, (enc1 v)[j]? = some u → W.cell? (ad.add (i * sz + j)) = some u := by
      intro k
      induction k with
      | zero => intro _; exact ⟨[], rfl, by simp, by simp⟩
      | succ k ih =>
        intro hk
        obtain ⟨l, hl1, hl2, hl3⟩ := ih (by omega)
        obtain ⟨v, hv1, hv2⟩ := hlen1 k (by omega)
        refine ⟨l ++ [v], by simp [hl1], ?_, ?_⟩
        · intro u hu
          rcases List.mem_append.1 hu with h | h
          · exact hl2 u h
          · simp only [List.mem_singleton] at h; subst h; exact hv1
        · intro i u hi j x hj
          by_cases hik : i < k
          · rw [List.getElem?_append_left (by omega)] at hi
            exact hl3 i u hi j x hj
          · rw [List.getElem?_append_right (by omega)] at hi
            have : i - l.length = 0 := by
              have := (List.getElem?_eq_some_iff.1 hi).1
              simp at this; omega
            rw [this] at hi
            simp only [List.getElem?_cons_zero, Option.some.injEq] at hi
            subst hi
            have : i = k := by omega
            subst this
            exact hv2 j x hj
    obtain ⟨l, hl1, hl2, hl3⟩ := hall m (Nat.le_refl _)
    have hlens : ∀ e ∈ (l.take n).map enc1, e.length = sz := by
      intro e he
      obtain ⟨v, hv, rfl⟩ := List.mem_map.1 he
      exact hl2 v (List.mem_of_mem_take hv)
    have hlenl : ∀ e ∈ l.map enc1, e.length = sz := by
      intro e he
      obtain ⟨v, hv, rfl⟩ := List.mem_map.1 he
      exact hl2 v hv
    refine ⟨l.take n, by simp; omega, hp, hlens, ?_⟩
    simp only [List.length_map, List.length_take]
    refine ⟨by omega, hl, fun hm0 => ?_⟩
    · have hcells : ∀ (p : Nat) (v : Value), (l.map enc1).flatten[p]? = some v → W.cell? (ad.add p) = some v := by
        intro p v hp'
        have hplt : p < m * sz := by
          have := (List.getElem?_eq_some_iff.1 hp').1
          rw [flat_length hlenl] at this
          simpa [hl1] using this
        have hi : p / sz < m := Nat.div_lt_of_lt_mul (by rw [Nat.mul_comm]; exact hplt)
        have hlt : p / sz < l.length := by omega
        have hle : l[p / sz]? = some l[p / sz] := List.getElem?_eq_getElem hlt
        have hj : p % sz < (enc1 l[p / sz]).length := by rw [hl2 _ (List.getElem_mem hlt)]; exact Nat.mod_lt _ hp
        have h3 := hl3 _ _ hle (p % sz) _ (List.getElem?_eq_getElem hj)
        have h4 := flat_get hlenl (i := p / sz) (k := p % sz) (e := enc1 l[p / sz]) (v := (enc1 l[p / sz])[p % sz]) (by simp [hle]) (List.getElem?_eq_getElem hj)
        have hpe : p / sz * sz + p % sz = p := by rw [Nat.mul_comm]; exact Nat.div_add_mod p sz
        rw [hpe] at h3 h4
        rw [h4, Option.some.injEq] at hp'
        rw [← hp']
        exact h3
      have hflen : (l.map enc1).flatten.length = m * sz := by rw [flat_length hlenl]; simp [hl1]
      obtain ⟨hs, arr, el, fz, hh, hsz, hv⟩ := row_of_cells (W := W) (a := ad) (n := m * sz) (Nat.mul_pos (by omega) hp) (fun j hj => ⟨_, hcells j _ (List.getElem?_eq_getElem (by rw [hflen]; exact hj))⟩)
      refine ⟨hs, arr, el, fz, hh, by simp, hsz, ?_, ?_⟩
      · rw [flat_length hlens]; simp only [List.length_map, List.length_take]; exact Nat.mul_le_mul_right _ (by omega)
      · intro j v hj
        have hjl : j < (l.take n).length * sz := by
          have := (List.getElem?_eq_some_iff.1 hj).1
          rwa [flat_length hlens, List.length_map] at this
        have hjm : j < m * sz := Nat.lt_of_lt_of_le hjl (Nat.mul_le_mul_right _ (by simp; omega))
        have hfull : (l.map enc1).flatten[j]? = some v := by
          have h5 : l = l.take n ++ l.drop n := (List.take_append_drop _ _).symm
          rw [h5, List.map_append, List.flatten_append, List.getElem?_append_left (List.getElem?_eq_some_iff.1 hj).1]
          exact hj
        exact hv j v hjm (hcells j v hfull)

theorem u8_el {t : Nat} (ht : P.underlying t = some (.int .u8)) :
    ∀ m cs y, cs.length = 1 → DataW.trod enc P W 0 (fun _ => true) true m t cs = some y → ∃ v : UInt8, cs = [.int .u8 v.toNat] := by
  intro m cs y _ h
  obtain ⟨n, h1, _, wf⟩ := DataW.trod_int ht h
  have := bounds_u8 wf
  refine ⟨UInt8.ofNat n.toNat, ?_⟩
  rw [h1]
  congr 2
  simp [UInt8.toNat_ofNat']
  omega

end
end Go.Proofs.YtpfijnklnljccaaDoor
