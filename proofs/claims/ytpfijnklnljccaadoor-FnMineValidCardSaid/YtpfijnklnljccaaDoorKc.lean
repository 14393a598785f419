/- Rules for the operations that make or write memory are proved here; the sizes are bounded where Go's memory bounds them. -/
import Derived.Test.YtpfijnklnljccaaDoorKb
namespace Go.Proofs.YtpfijnklnljccaaDoor
open Go

/-- A chunk is taken out. -/
inductive Pick : List Chunk → Chunk → List Chunk → Prop
  | here {c : Chunk} {r : List Chunk} : Pick (c :: r) c r
  | there {a c : Chunk} {r s : List Chunk} : Pick r c s → Pick (a :: r) c (a :: s)

/-- A chunk is replaced in its place. -/
inductive Upd : List Chunk → Chunk → Chunk → List Chunk → Prop
  | here {c d : Chunk} {r : List Chunk} : Upd (c :: r) c d (d :: r)
  | there {a c d : Chunk} {r s : List Chunk} : Upd r c d s → Upd (a :: r) c d (a :: s)

theorem Pick.perm {l r : List Chunk} {c : Chunk} (h : Pick l c r) : l.Perm (c :: r) := by
  induction h with
  | here => exact .refl _
  | there _ ih => exact (ih.cons _).trans (.swap _ _ _)

theorem Pick.mem {l r : List Chunk} {c : Chunk} (h : Pick l c r) : c ∈ l := h.perm.symm.subset List.mem_cons_self

theorem Upd.perm {l r : List Chunk} {c d : Chunk} (h : Upd l c d r) : ∃ s, l.Perm (c :: s) ∧ r.Perm (d :: s) := by
  induction h with
  | here => exact ⟨_, .refl _, .refl _⟩
  | there _ ih =>
    obtain ⟨s, h1, h2⟩ := ih
    exact ⟨_, (h1.cons _).trans (.swap _ _ _), (h2.cons _).trans (.swap _ _ _)⟩

theorem Upd.at {l : List Chunk} {c d : Chunk} : ∀ {n : Nat}, l[n]? = some c → Upd l c d (l.set n d) := by
  induction l with
  | nil => intro n h; simp at h
  | cons a l ih =>
    intro n h
    cases n with
    | zero => simp at h; subst h; exact .here
    | succ n => exact .there (ih (by simpa using h))

theorem perms {c1 c2 : List Chunk} (hp : c1.Perm c2) (rest : List Chunk) : (c1 ++ rest).Perm (c2 ++ rest) := hp.append_right rest

/-- One chunk has changed, in its own block or into a new one; all other blocks are as they were. -/
theorem St.upd {w w' : World} {ro ch ch' : List Chunk} {c d : Chunk} (h : St w ro ch) (u : Upd ch c d ch') (hd : d.ok w' true)
    (henv : w'.os = w.os ∧ w'.tape = w.tape ∧ w'.output = w.output) (hsz : w.heap.size ≤ w'.heap.size) (hk : ∀ b, b < w.heap.size → c.blk ≠ some b → w'.heap[b]? = w.heap[b]?)
    (hb : ∀ b, d.blk = some b → b < w.heap.size → c.blk = some b) : St w' ro ch' ∧ Ext w ch w' ch' := by
  obtain ⟨s, h1, h2⟩ := u.perm
  have e : Ext w [c] w' [d] := ⟨hsz, fun b hlt hn => hk b hlt (hn c (by simp)), fun x hx b hxb hlt => by
    simp only [List.mem_singleton] at hx; subst hx; exact ⟨c, by simp, hb b hxb hlt⟩, henv⟩
  have hs1 : St w' [] [d] := { rok := fun x hx => (by cases hx), wok := fun x hx => (by simp only [List.mem_singleton] at hx; subst hx; exact hd), pw := (by simp), rs := fun x hx => (by cases hx) }
  obtain ⟨g1, g2⟩ := h.frame (rwC := [c]) (rest := s) (roC := []) h1 hs1 e
  exact ⟨g1.sub ⟨[], by simpa using h2.symm⟩, g2.sub ⟨[], by simpa using h2.symm⟩⟩

/-- The same, the chunk in front. -/
theorem St.repl {w w' : World} {ro ch r : List Chunk} {c d : Chunk} (h : St w ro ch) (u : Pick ch c r) (hd : d.ok w' true)
    (henv : w'.os = w.os ∧ w'.tape = w.tape ∧ w'.output = w.output) (hsz : w.heap.size ≤ w'.heap.size) (hk : ∀ b, b < w.heap.size → c.blk ≠ some b → w'.heap[b]? = w.heap[b]?)
    (hb : ∀ b, d.blk = some b → b < w.heap.size → c.blk = some b) : St w' ro (d :: r) ∧ Ext w ch w' (d :: r) := by
  have e : Ext w [c] w' [d] := ⟨hsz, fun b hlt hn => hk b hlt (hn c (by simp)), fun x hx b hxb hlt => by
    simp only [List.mem_singleton] at hx; subst hx; exact ⟨c, by simp, hb b hxb hlt⟩, henv⟩
  have hs1 : St w' [] [d] := { rok := fun x hx => (by cases hx), wok := fun x hx => (by simp only [List.mem_singleton] at hx; subst hx; exact hd), pw := (by simp), rs := fun x hx => (by cases hx) }
  exact h.frame (rwC := [c]) (rest := r) (roC := []) u.perm hs1 e

/-- A new chunk in a new block. -/
theorem St.new {w w' : World} {ro ch : List Chunk} {d : Chunk} (h : St w ro ch) (hd : d.ok w' true)
    (henv : w'.os = w.os ∧ w'.tape = w.tape ∧ w'.output = w.output) (hsz : w.heap.size ≤ w'.heap.size) (hk : ∀ b, b < w.heap.size → w'.heap[b]? = w.heap[b]?) (hb : ∀ b, d.blk = some b → w.heap.size ≤ b) : St w' ro (d :: ch) ∧ Ext w ch w' (d :: ch) := by
  have e : Ext w [] w' [d] := ⟨hsz, fun b hlt _ => hk b hlt, fun x hx b hxb hlt => by
    simp only [List.mem_singleton] at hx; subst hx; have := hb b hxb; omega, henv⟩
  have hs1 : St w' [] [d] := { rok := fun x hx => (by cases hx), wok := fun x hx => (by simp only [List.mem_singleton] at hx; subst hx; exact hd), pw := (by simp), rs := fun x hx => (by cases hx) }
  exact h.frame (rwC := []) (rest := ch) (roC := []) (by simp) hs1 e

theorem upd_mem {l r : List Chunk} {c d : Chunk} (u : Upd l c d r) : c ∈ l := by
  obtain ⟨s, h1, _⟩ := u.perm
  exact h1.symm.subset (by simp)

theorem heap_setCell_other (w : World) (a : Addr) (v : Value) (b : Nat) (h : a.block ≠ b) : (w.setCell a v).heap[b]? = w.heap[b]? := by
  simp [World.setCell, Array.getElem?_modify, h]

theorem RowOk.set {w : World} {a : Addr} {cs : List Value} {m j : Nat} {v : Value} (h : RowOk w true a cs m) (_hj : j < cs.length) : RowOk (w.setCell (a.add j) v) true a (cs.set j v) m := by
  obtain ⟨hs, arr, el, fz, hh, hfz, hm, hl, hv⟩ := h
  obtain ⟨b, o, s⟩ := a
  simp only at hs hh hv hm
  subst hs
  rw [add_mk]
  refine ⟨rfl, arr.setIfInBounds (o + j) v, el, fz, ?_, hfz, by simpa using hm, by simpa using hl, fun i u hi => ?_⟩
  · simp [World.setCell, Array.getElem?_modify, hh]
  · simp only [List.getElem?_set] at hi
    by_cases e : j = i
    · subst e
      rw [if_pos rfl] at hi
      rw [if_pos _hj] at hi
      cases hi
      show (arr.setIfInBounds (o + j) v)[o + j]? = some v
      rw [Array.getElem?_setIfInBounds_self_of_lt (by omega)]
    · rw [if_neg e] at hi
      show (arr.setIfInBounds (o + j) v)[o + i]? = some u
      rw [Array.getElem?_setIfInBounds_ne (by omega)]
      exact hv i u hi

theorem RowOk.free {w : World} {a : Addr} {cs : List Value} {m : Nat} (h : RowOk w true a cs m) (j : Nat) : w.frozen? (a.add j) = false := by
  obtain ⟨hs, arr, el, fz, hh, hfz, _⟩ := h
  obtain ⟨b, o, s⟩ := a
  simp only at hs hh
  subst hs
  rw [add_mk]
  simp [World.frozen?, hh, hfz rfl]

theorem flat_setAll {sz : Nat} {e' : List Value} : ∀ {es : List (List Value)} {i : Nat} (_ : ∀ e ∈ es, e.length = sz) (_ : e'.length = sz) (_ : i < es.length),
    (es.set i e').flatten = es.flatten.take (i * sz) ++ e' ++ es.flatten.drop (i * sz + e'.length)
  | [], i, _, _, h => by simp at h
  | y :: es, 0, hl, he, _ => by
    have hy : y.length = sz := hl y (by simp)
    simp only [List.set_cons_zero, List.flatten_cons, Nat.zero_mul, List.take_zero, List.nil_append, Nat.zero_add]
    rw [he, ← hy, List.drop_left]
  | y :: es, i + 1, hl, he, h => by
    have hy : y.length = sz := hl y (by simp)
    have ih := flat_setAll (es := es) (i := i) (fun z hz => hl z (List.mem_cons_of_mem _ hz)) he (by simpa using h)
    simp only [List.set_cons_succ, List.flatten_cons, ih]
    have e1 : (i + 1) * sz = y.length + i * sz := by rw [hy, Nat.add_mul]; omega
    rw [e1, Nat.add_assoc, List.take_length_add_append, List.drop_length_add_append]
    simp

section
variable {P : Program} {N : Nat} {ro : List Chunk} {o : Oper} {sl : Slots} {ch : List Chunk} {R : KPred}

/-- Writing one cell. -/
theorem opk_store {t : TypeId} {x y : Operand} {h : Value} {sz i k : Nat} {es : List (List Value)} {e : List Value} {v : Value} {ch' : List Chunk}
    (ho : o.op = .store t x y) (hx : kev N sl x = some (adr h sz i k)) (hy : kev N sl y = some v) (hsz : ∀ w, (sizeOf t).run P w = .ok 1 w)
    (hv : v.oneCell' = true) (hu : Upd ch ⟨h, sz, es⟩ ⟨h, sz, es.set i (e.set k v)⟩ ch') (hi : es[i]? = some e) (hk : k < sz) (hR : R (putS o.dst undef sl) ch') : OpK P N ro o sl ch R := by
  intro a w hkn hs K Q hK
  have hok := hs.wok _ (upd_mem hu)
  have hlen : e.length = sz := hok.2.1 e (List.mem_of_getElem? hi)
  have hi' : i < es.length := (List.getElem?_eq_some_iff.1 hi).1
  obtain ⟨ad, m, hrow, hblk, had, hback⟩ := hok.row (show 0 < es.length by omega)
  simp only at had hrow hblk hback
  have hc := hrow.cell (flat_get hok.2.1 hi (List.getElem?_eq_getElem (show k < e.length by omega)))
  have hev := hkn.ev hx
  have hev2 := hkn.ev hy
  rw [had] at hev
  have hcv : v.cells = #[v] := by cases v <;> first | rfl | (simp [Value.oneCell'] at hv)
  have hst := run_store P w (ad.add (i * sz + k)) v .plain hv
  rw [hc] at hst
  simp only [hrow.free, Bool.false_eq_true, if_false] at hst
  have h0 : (ad.add (i * sz + k)).add 0 = ad.add (i * sz + k) := by simp [Addr.add]
  have hrun : (execOp a.eval o).run P w = .ok .skip (w.setCell (ad.add (i * sz + k)) v) := by
    unfold execOp
    simp [ho, hev, hev2, Instr.storeAt, Instr.sureAddr, storeVar, hsz, hcv, storeCells, h0, hst]
  have hlt : i * sz + k < es.flatten.length := by
    have hfl := flat_length hok.2.1
    simp only at hfl
    rw [hfl]
    have := Nat.mul_le_mul_right sz (show i + 1 ≤ es.length by omega)
    rw [Nat.add_mul] at this
    omega
  have hd : (⟨h, sz, es.set i (e.set k v)⟩ : Chunk).ok (w.setCell (ad.add (i * sz + k)) v) true := by
    refine hback _ _ _ (by simp) (fun x hx => ?_) ?_
    · rcases List.mem_or_eq_of_mem_set hx with hx | rfl
      · exact hok.2.1 x hx
      · simpa using hlen
    · have hfs := flat_set hok.2.1 (v := v) hi hk
      simp only at hfs
      rw [hfs]
      exact hrow.set hlt
  have hab : (ad.add (i * sz + k)).block = ad.block := by
    obtain ⟨b, oo, s⟩ := ad
    have : s = none := hrow.1
    subst this
    rw [add_mk]
  obtain ⟨s1, s2⟩ := hs.upd hu hd ⟨rfl, rfl, rfl⟩ (by simp) (fun b _ hb => heap_setCell_other w _ v b (fun e => hb (by
      rw [hblk, ← hab, e]))) (fun b hb _ => hb)
  unfold Oper.wp
  rw [hrun]
  exact hK _ _ _ _ hR (hkn.put _ _) s1 s2

theorem new_ok {w : World} {cells : Array Value} {el : TypeId} {sz : Nat} {e : List Value} (h : cells.toList = e) (hl : e.length = sz) (hp : 0 < sz) :
    (⟨.pointer (some ⟨w.heap.size, 0, none⟩), sz, [e]⟩ : Chunk).ok (w.alloc (.cells cells el)) true := by
  refine ⟨hp, by simpa using hl, ?_⟩
  refine ⟨rfl, cells, el, (0, 0), heap_alloc_new w _, fun _ => rfl, ?_, ?_, ?_⟩
  · have := congrArg List.length h; simp at this; simp; omega
  · simp; omega
  · intro j v hj
    simp only [List.flatten_cons, List.flatten_nil, List.append_nil, ← h] at hj
    simpa using hj

theorem new_slice_ok {w : World} {cells : Array Value} {el : TypeId} {sz n cap : Nat} {es : List (List Value)} (hp : 0 < sz) (hl : ∀ e ∈ es, e.length = sz)
    (hn : n = es.length) (hc : n ≤ cap) (hs : cap * sz ≤ cells.size) (hv : ∀ (j : Nat) (v : Value), es.flatten[j]? = some v → cells[j]? = some v) :
    (⟨.slice (some ⟨w.heap.size, 0, none⟩) n cap, sz, es⟩ : Chunk).ok (w.alloc (.cells cells el)) true := by
  refine ⟨hp, hl, hn, hc, fun _ => ⟨rfl, cells, el, (0, 0), heap_alloc_new w _, fun _ => rfl, by simpa using hs, ?_, ?_⟩⟩
  · rw [flat_length hl, ← hn]; exact Nat.mul_le_mul_right _ hc
  · intro j v hj; simpa using hv j v hj

theorem alloc_old {w : World} {ob : Obj} (b : Nat) (h : b < w.heap.size) : (w.alloc ob).heap[b]? = w.heap[b]? := by
  exact heap_alloc_old w ob h

/-- A new variable that holds a value. -/
theorem opk_box {t : TypeId} {x : Operand} {v : Value} {e : List Value} (ho : o.op = .box t x) (hx : kev N sl x = some v) (he : v.cells.toList = e) (hp : 0 < e.length)
    (hR : ∀ p : Addr, R (putS o.dst (.pointer (some p)) sl) (⟨.pointer (some p), e.length, [e]⟩ :: ch)) : OpK P N ro o sl ch R := by
  intro a w hkn hs K Q hK
  have hrun : (execOp a.eval o).run P w = .ok (.value (.pointer (some ⟨w.heap.size, 0, none⟩))) (w.alloc (.cells v.cells t)) := by
    unfold execOp
    simp [ho, hkn.ev hx, Instr.box, newVar, newRow]
  obtain ⟨s1, s2⟩ := hs.new (new_ok (w := w) (el := t) he rfl hp) ⟨rfl, rfl, rfl⟩ (by simp) (fun b hb => alloc_old b hb) (fun b hb => by
    simp only [Chunk.blk, blkOf, Option.some.injEq] at hb; omega)
  unfold Oper.wp
  rw [hrun]
  exact hK _ _ _ _ (hR _) (hkn.put _ _) s1 s2

/-- A new variable at its type's zero. -/
theorem opk_alloc {t : TypeId} {z : Value} {e : List Value} (ho : o.op = .alloc t) (hz : ∀ w, (zeroValue t).run P w = .ok z w) (he : z.cells.toList = e) (hp : 0 < e.length)
    (hR : ∀ p : Addr, R (putS o.dst (.pointer (some p)) sl) (⟨.pointer (some p), e.length, [e]⟩ :: ch)) : OpK P N ro o sl ch R := by
  intro a w hkn hs K Q hK
  have hrun : (execOp a.eval o).run P w = .ok (.value (.pointer (some ⟨w.heap.size, 0, none⟩))) (w.alloc (.cells z.cells t)) := by
    unfold execOp
    simp [ho, Instr.alloc, hz, newVar, newRow]
  obtain ⟨s1, s2⟩ := hs.new (new_ok (w := w) (el := t) he rfl hp) ⟨rfl, rfl, rfl⟩ (by simp) (fun b hb => alloc_old b hb) (fun b hb => by
    simp only [Chunk.blk, blkOf, Option.some.injEq] at hb; omega)
  unfold Oper.wp
  rw [hrun]
  exact hK _ _ _ _ (hR _) (hkn.put _ _) s1 s2

theorem run_storeAll (P : Program) : ∀ (vs : List Value) (cs : List Value) (i : Nat) (a : Addr) (m : Nat) (w : World), RowOk w true a cs m → i + vs.length ≤ cs.length → (∀ v ∈ vs, v.oneCell' = true) →
    ∃ w', (storeCells a vs i).run P w = .ok () w' ∧ RowOk w' true a (cs.take i ++ vs ++ cs.drop (i + vs.length)) m ∧ w'.heap.size = w.heap.size ∧ (∀ b, b ≠ a.block → w'.heap[b]? = w.heap[b]?) ∧ w'.os = w.os ∧ w'.tape = w.tape ∧ w'.output = w.output
  | [], cs, i, a, m, w, h, _, _ => ⟨w, rfl, by simpa using h, rfl, fun _ _ => rfl, rfl, rfl, rfl⟩
  | v :: vs, cs, i, a, m, w, h, hl, h1 => by
    simp only [List.length_cons] at hl
    have hc := h.cell (j := i) (List.getElem?_eq_getElem (by omega))
    have hst := run_store P w (a.add i) v .plain (h1 v (by simp))
    rw [hc] at hst
    simp only [h.free, Bool.false_eq_true, if_false] at hst
    have hset := h.set (j := i) (v := v) (by omega)
    obtain ⟨w', hr, hrow, hs, hb, he⟩ := run_storeAll P vs (cs.set i v) (i + 1) a m (w.setCell (a.add i) v) hset (by simp; omega) (fun x hx => h1 x (by simp [hx]))
    have hab : (a.add i).block = a.block := by
      obtain ⟨b, oo, s⟩ := a
      have : s = none := h.1
      subst this
      rw [add_mk]
    refine ⟨w', ?_, ?_, by rw [hs]; simp, fun b hbn => (hb b hbn).trans (heap_setCell_other w _ v b (by rw [hab]; exact hbn.symm)), he⟩
    · simp only [storeCells, Sem.run_bind, hst, Result.andThen_ok]
      exact hr
    · have e1 : (cs.set i v).take (i + 1) = cs.take i ++ [v] := by
        rw [List.take_succ_eq_append_getElem (by simp; omega)]
        simp [List.take_set_of_le]
      have e2 : (cs.set i v).drop (i + 1 + vs.length) = cs.drop (i + (vs.length + 1)) := by
        rw [List.drop_set_of_lt (by omega)]
        congr 1; omega
      rw [e1, e2] at hrow
      simpa using hrow

/-- Writing a whole element. -/
theorem opk_store_agg {t : TypeId} {x y : Operand} {h : Value} {sz i : Nat} {es : List (List Value)} {e e' : List Value} {v : Value} {ch' : List Chunk}
    (ho : o.op = .store t x y) (hx : kev N sl x = some (adr h sz i 0)) (hy : kev N sl y = some v) (hsz : ∀ w, (sizeOf t).run P w = .ok sz w)
    (hcv : v.cells.toList = e') (hv : ∀ u ∈ e', u.oneCell' = true) (hl : e'.length = sz) (hu : Upd ch ⟨h, sz, es⟩ ⟨h, sz, es.set i e'⟩ ch') (hi : es[i]? = some e) (hR : R (putS o.dst undef sl) ch') : OpK P N ro o sl ch R := by
  intro a w hkn hs K Q hK
  have hok := hs.wok _ (upd_mem hu)
  have hi' : i < es.length := (List.getElem?_eq_some_iff.1 hi).1
  obtain ⟨ad, m, hrow, hblk, had, hback⟩ := hok.row (show 0 < es.length by omega)
  have hfl := flat_length hok.2.1
  have hsq := hok.2.1
  simp only at had hrow hblk hback hfl hsq
  have hev := hkn.ev hx
  have hev2 := hkn.ev hy
  rw [had] at hev
  have hle : i * sz + e'.length ≤ es.flatten.length := by
    rw [hfl, hl]
    have := Nat.mul_le_mul_right sz (show i + 1 ≤ es.length by omega)
    rw [Nat.add_mul] at this
    omega
  obtain ⟨w', hr, hrow', hsize, hoth, henv⟩ := run_storeAll P e' es.flatten (i * sz) ad m w hrow hle hv
  have hshift : ∀ (vs : List Value) (k j : Nat), storeCells (ad.add k) vs j = storeCells ad vs (k + j) := by
    intro vs
    induction vs with
    | nil => intro k j; rfl
    | cons u vs ih => intro k j; simp only [storeCells]; rw [add_add hrow.1, ih]; rfl
  have hcs : v.cells.size = sz := by have := congrArg List.length hcv; simp at this; omega
  have hrun : (execOp a.eval o).run P w = .ok .skip w' := by
    unfold execOp
    simp [ho, hev, hev2, Instr.storeAt, Instr.sureAddr, storeVar, hsz, hcs, hcv, hshift, hr]
  have hset := flat_setAll hsq hl hi'
  have hd : (⟨h, sz, es.set i e'⟩ : Chunk).ok w' true := by
    refine hback _ _ _ (by simp) (fun x hx => ?_) ?_
    · rcases List.mem_or_eq_of_mem_set hx with hx | rfl
      · exact hsq x hx
      · exact hl
    · rw [hset]; exact hrow'
  obtain ⟨s1, s2⟩ := hs.upd hu hd henv (by omega) (fun b _ hb => hoth b (fun e => hb (by rw [hblk, e]))) (fun b hb _ => hb)
  unfold Oper.wp
  rw [hrun]
  exact hK _ _ _ _ hR (hkn.put _ _) s1 s2

theorem opk_store_box {t : TypeId} {x y : Operand} {p : Addr} {sz : Nat} {e e' : List Value} {v : Value} {ch' : List Chunk}
    (ho : o.op = .store t x y) (hx : kev N sl x = some (.pointer (some p))) (hy : kev N sl y = some v) (hsz : ∀ w, (sizeOf t).run P w = .ok sz w)
    (hcv : v.cells.toList = e') (hv : ∀ u ∈ e', u.oneCell' = true) (hl : e'.length = sz)
    (hu : Upd ch ⟨.pointer (some p), sz, [e]⟩ ⟨.pointer (some p), sz, [e']⟩ ch') (hR : R (putS o.dst undef sl) ch') : OpK P N ro o sl ch R :=
  opk_store_agg (h := .pointer (some p)) (i := 0) (es := [e]) ho (by rw [adr_box]; exact hx) hy hsz hcv hv hl hu rfl hR

end
end Go.Proofs.YtpfijnklnljccaaDoor
