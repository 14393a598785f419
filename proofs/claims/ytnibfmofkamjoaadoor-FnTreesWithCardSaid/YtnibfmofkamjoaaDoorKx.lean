/- Append of a part of a slice. -/
import Derived.Test.YtnibfmofkamjoaaDoorDa
namespace Go.Proofs.YtnibfmofkamjoaaDoor
open Go
set_option linter.unusedVariables false
set_option linter.unusedSimpArgs false
section
variable {P : Program} {N : Nat} {ro : List Chunk} {o : Oper} {sl : Slots} {ch : List Chunk} {R : KPred}
theorem opk_appendV {t e : TypeId} {x y : Operand} {i : TypeInfo} {z : Value} {sz : Nat} {a b : Option Addr} {n c m c2 : Nat} {es es2 : List (List Value)} {r : List Chunk} (ho : o.op = .call { callee := .builtin .append, args := #[x, y], argTypes := #[t, t] })
    (hx : kev N sl x = some (.slice a n c)) (hy : kev N sl y = some (.slice b m c2))
    (ht : P.underlying t = some (.slice e)) (hi : P.info? e = some i) (hz : i.zero = some z) (hsz : i.size = sz) (hzl : z.cells.size = sz)
    (hm : ∀ w, St w ro ch → (⟨.slice b m c2, sz, es2⟩ : Chunk).ok w false) (hone : ∀ e ∈ es2, ∀ u ∈ e, u.oneCell' = true) (hp : Pick ch ⟨.slice a n c, sz, es⟩ r) (h63 : n + m ≤ 4611686018427387904) (hb : (n + m) * i.bytes ≤ 140737488355328)
    (hR : ∀ (a' : Option Addr) (c' : Nat), R (putS o.dst (.slice a' (n + m) c') sl) (⟨.slice a' (n + m) c', sz, es ++ es2⟩ :: r)) : OpK P N ro o sl ch R := by
  intro ac w hkn hs K Q hK
  have hok := hs.wok _ hp.mem
  have hok2 := hm w hs
  obtain ⟨p0, p1, p2⟩ := hok
  obtain ⟨q0, q1, q2⟩ := hok2
  simp only at p0 p1 p2 q0 q1 q2
  have hfl := flat_length p1
  have hfl2 := flat_length q1
  have hall : ∀ e ∈ es ++ es2, e.length = sz := fun e he => by
    rcases List.mem_append.1 he with h | h
    · exact p1 e h
    · exact q1 e h
  have hone' : ∀ u ∈ es2.flatten, u.oneCell' = true := fun u hu => by
    obtain ⟨e, he, hue⟩ := List.mem_flatten.1 hu
    exact hone e he u hue
  have hfin : ∀ (a' : Option Addr) (c' : Nat) (w' : World), (Builtin.append_ #[t, t] o.type #[.slice a n c, .slice b m c2]).run P w = .ok (.slice a' (n + m) c') w' →
      (⟨.slice a' (n + m) c', sz, es ++ es2⟩ : Chunk).ok w' true → (w'.os = w.os ∧ w'.tape = w.tape ∧ w'.output = w.output) → w.heap.size ≤ w'.heap.size → (∀ b, b < w.heap.size → (⟨.slice a n c, sz, es⟩ : Chunk).blk ≠ some b → w'.heap[b]? = w.heap[b]?) →
      (∀ b, (⟨.slice a' (n + m) c', sz, es ++ es2⟩ : Chunk).blk = some b → b < w.heap.size → (⟨.slice a n c, sz, es⟩ : Chunk).blk = some b) → o.wp P ac w K Q := by
    intro a' c' w' hr hd he h1 h2 h3
    obtain ⟨s1, s2⟩ := hs.repl hp hd he h1 h2 h3
    have h0 : (execOp ac.eval o).run P w = .ok (.value (.slice a' (n + m) c')) w' := by
      unfold execOp
      simp [ho, hkn.ev hx, hkn.ev hy, resolve, invoke, builtin, hr]
    unfold Oper.wp
    rw [h0]
    exact hK _ _ _ _ (hR a' c') (hkn.put _ _) s1 s2
  subst hsz
  -- the source
  cases b with
  | none =>
    obtain ⟨e1, e2, e3⟩ := q2
    subst e1 e2 e3
    refine hfin a c w ?_ ?_ ⟨rfl, rfl, rfl⟩ (Nat.le_refl _) (fun _ _ _ => rfl) (fun b hb _ => hb)
    · have hnc : n ≤ c := by
        cases a with
        | none => obtain ⟨f1, f2, _⟩ := p2; omega
        | some ad => exact p2.2.1
      cases a with
      | none => simp [Builtin.append_, run_underlying ht, sizeOf, typeInfo, hi, Builtin.lenOf, Builtin.firstCells, hnc]
      | some ad => simp [Builtin.append_, run_underlying ht, sizeOf, typeInfo, hi, Builtin.lenOf, Builtin.firstCells, hnc, storeCells]
    · rw [List.append_nil]; exact ⟨p0, p1, p2⟩
  | some bd =>
    obtain ⟨r1, r2, r3⟩ := q2
    have hnews : ∀ (j : Nat) (v : Value), es2.flatten[j]? = some v → w.cell? (bd.add j) = some v := fun j v hj => by
      have hjl := (List.getElem?_eq_some_iff.1 hj).1
      rw [hfl2] at hjl
      have : 0 < es2.length := by
        rcases Nat.eq_zero_or_pos es2.length with h | h
        · rw [h] at hjl; omega
        · exact h
      exact (r3 (by omega)).cell hj
    have hlen2 : es2.flatten.length = m * i.size := by rw [hfl2, r1]
    have newok : ∀ (cap : Nat), n + m ≤ cap → (⟨.slice (some ⟨w.heap.size, 0, none⟩) (n + m) cap, i.size, es ++ es2⟩ : Chunk).ok (w.drew.alloc (.cells (es.flatten.toArray ++ es2.flatten.toArray ++ Builtin.zeroCells z.cells (cap - (n + m))) e)) true := by
      intro cap hcap
      have hnl : n = es.length := by
        cases a with
        | none => obtain ⟨f1, _, f3⟩ := p2; subst f3; simpa using f1
        | some ad => exact p2.1
      refine new_slice_ok (w := w.drew) p0 hall (by simp [hnl, r1]) hcap ?_ ?_
      · have hz2 : (Builtin.zeroCells z.cells (cap - (n + m))).size = (cap - (n + m)) * i.size := by rw [size_zeroCells, hzl]
        have h4 : cap = es.length + es2.length + (cap - (n + m)) := by omega
        have h5 : cap * i.size = es.length * i.size + es2.length * i.size + (cap - (n + m)) * i.size := by rw [← Nat.add_mul, ← Nat.add_mul, ← h4]
        simp only [Array.size_append, List.size_toArray, hz2, hfl, hfl2]
        omega
      · intro j v hj
        rw [List.flatten_append] at hj
        have hjl := (List.getElem?_eq_some_iff.1 hj).1
        rw [Array.getElem?_append_left (by simpa using hjl)]
        simpa using hj
    have hk1 : ∀ (cap : Nat) (bb : Nat), bb < w.heap.size → (w.drew.alloc (.cells (es.flatten.toArray ++ es2.flatten.toArray ++ Builtin.zeroCells z.cells (cap - (n + m))) e)).heap[bb]? = w.heap[bb]? := fun cap bb hbb => alloc_old (w := w.drew) bb hbb
    cases a with
    | none =>
      obtain ⟨e1, e2, e3⟩ := p2
      subst e1 e2 e3
      by_cases hm0 : m = 0
      · subst hm0
        have : es2 = [] := List.eq_nil_of_length_eq_zero r1.symm
        subst this
        refine hfin none 0 w ?_ ⟨p0, by simp, by simp⟩ ⟨rfl, rfl, rfl⟩ (Nat.le_refl _) (fun _ _ _ => rfl) (fun b hb _ => by simp [Chunk.blk, blkOf] at hb)
        simp [Builtin.append_, run_underlying ht, sizeOf, typeInfo, hi, Builtin.lenOf, Builtin.firstCells, loadCells, loadCellsFrom]
      · have hr := run_append_nil (P := P) w t o.type e i z ht hi hz bd m c2 es2.flatten hlen2 hnews (by omega) (by omega) (by simp only [Nat.zero_add] at hb; omega)
        have hn := newok (grownCap w m 0 e) (by have := grownCap_ge w m 0 e; omega)
        simp only [Nat.zero_add, List.flatten_nil, Array.empty_append, List.nil_append] at hn
        refine hfin _ _ (w.drew.alloc (.cells (es2.flatten.toArray ++ Builtin.zeroCells z.cells (grownCap w m 0 e - m)) e)) (by simpa using hr) (by simpa using hn) ⟨rfl, rfl, rfl⟩ (by simp) (fun b hb _ => ?_) (fun b hb hlt => ?_)
        · exact alloc_old (w := w.drew) b hb
        · simp only [Chunk.blk, blkOf] at hb
          split at hb
          · cases hb
          · simp only [Option.some.injEq] at hb; omega
    | some ad =>
      obtain ⟨f1, f2, f3⟩ := p2
      by_cases hroom : n + m ≤ c
      · by_cases hc0 : c = 0
        · subst hc0
          have hn0 : n = 0 := by omega
          have hm0 : m = 0 := by omega
          subst hn0 hm0
          have he1 : es = [] := List.eq_nil_of_length_eq_zero f1.symm
          have he2 : es2 = [] := List.eq_nil_of_length_eq_zero r1.symm
          subst he1 he2
          refine hfin (some ad) 0 w ?_ ⟨p0, by simp, rfl, Nat.le_refl _, fun h => by omega⟩ ⟨rfl, rfl, rfl⟩ (Nat.le_refl _) (fun _ _ _ => rfl) (fun b hb _ => hb)
          simp [Builtin.append_, run_underlying ht, sizeOf, typeInfo, hi, Builtin.lenOf, Builtin.firstCells, loadCells, loadCellsFrom, storeCells]
        have f3 := f3 (by omega)
        obtain ⟨w', hr, hrow', hsz', hoth, henv⟩ := run_app_room P w (ty := o.type) ht hi f3 (by rw [hfl, f1]) (Nat.mul_le_mul_right _ hroom) hlen2 hnews hone' hroom
        refine hfin _ _ w' hr ⟨p0, hall, ?_⟩ henv (by omega) (fun b _ hb => hoth b (fun e => hb (by simp only [Chunk.blk, blkOf]; rw [if_neg hc0, e]))) (fun b hb _ => hb)
        exact ⟨by simp [f1, r1], hroom, fun _ => by rw [List.flatten_append]; exact hrow'⟩
      · have hr := run_append_grow (P := P) w t o.type e i z ht hi hz ad n c es.flatten (by rw [hfl, f1]) (fun j v hj => by
          have hjl := (List.getElem?_eq_some_iff.1 hj).1
          rw [hfl] at hjl
          have : 0 < es.length := by
            rcases Nat.eq_zero_or_pos es.length with h | h
            · rw [h] at hjl; omega
            · exact h
          exact (f3 (by omega)).cell hj) bd m c2 es2.flatten hlen2 hnews (by omega) (by omega) (growslice_fits (by omega) hb)
        refine hfin _ _ _ hr (newok _ (grownCap_ge w (n + m) c e)) ⟨rfl, rfl, rfl⟩ (by simp) (fun b hb _ => hk1 _ b hb) (fun b hb hlt => ?_)
        simp only [Chunk.blk, blkOf] at hb
        split at hb
        · cases hb
        · simp only [Option.some.injEq] at hb; omega

theorem n_appP {α : Type} {enc : α → List Value} {l L : List α} {t e : TypeId} {x y : Operand} {i : TypeInfo} {z : Value} {sz : Nat} {a b : Option Addr} {n c q c2 p h : Nat} {r : List Chunk} (hph : p ≤ h) (hhq : h ≤ q) (hone : ∀ x, ∀ u ∈ enc x, u.oneCell' = true)
    (hlim : l.length + ((L.drop p).take (h - p)).length ≤ 1073741824)
    (ht : P.underlying t = some (.slice e)) (hi : P.info? e = some i) (hb : i.bytes ≤ 65536)
    (hR : ∀ (a' : Option Addr) (c' : Nat), R (putS o.dst (.slice a' (l ++ (L.drop p).take (h - p)).length c') sl) (⟨.slice a' (l ++ (L.drop p).take (h - p)).length c', sz, (l ++ (L.drop p).take (h - p)).map enc⟩ :: r))
    (ho : o.op = .call { callee := .builtin .append, args := #[x, y], argTypes := #[t, t] } := by rfl)
    (hx : kev N sl x = some (.slice a n c) := by rfl) (hy : kev N sl y = some (.slice (subA b c2 sz p) (h - p) (c2 - p)) := by rfl) (hm : (⟨.slice b q c2, sz, L.map enc⟩ : Chunk) ∈ ro ++ ch := by repeat (first | exact mh | apply mt | apply mas | apply ms)) (hp : Pick ch ⟨.slice a n c, sz, l.map enc⟩ r := by repeat (first | exact Pick.here | apply Pick.there | apply Pick.seg)) (hz : i.zero = some z := by rfl) (hsz : i.size = sz := by rfl) (hzl : z.cells.size = sz := by rfl) : OpK P N ro o sl ch R := by
  intro ac w hkn hs K Q hK
  have hV : ∀ w, St w ro ch → (⟨.slice (subA b c2 sz p) (h - p) (c2 - p), sz, ((L.drop p).take (h - p)).map enc⟩ : Chunk).ok w false := fun w hs => (view_cut hph hhq w (mem_ok hs hm)).1
  have h1 := slice_len (hs.wok _ hp.mem)
  have h2 := slice_len (hV w hs)
  rw [List.length_map] at h1 h2
  have hbb : (n + (h - p)) * i.bytes ≤ 140737488355328 := by
    have := Nat.mul_le_mul (show n + (h - p) ≤ 1073741824 by omega) hb
    omega
  refine opk_appendV ho hx hy ht hi hz hsz hzl hV (ok_map hone) hp (by omega) hbb ?_ ac w hkn hs K Q hK
  intro a' c'
  have e1 : n + (h - p) = (l ++ (L.drop p).take (h - p)).length := by rw [List.length_append]; omega
  rw [e1, ← List.map_append]
  exact hR a' c'
end
end Go.Proofs.YtnibfmofkamjoaaDoor
