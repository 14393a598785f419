/- Rules for the operations that read, over the states of the layer before, are proved here; no condition on the program. -/
import Derived.Test.YtpfijnklnljccaaDoorKa
namespace Go.Proofs.YtpfijnklnljccaaDoor
open Go

/-! ### Elements in a row -/
theorem flat_get {sz : Nat} : ∀ {es : List (List Value)} (_ : ∀ e ∈ es, e.length = sz) {i k : Nat} {e : List Value} {v : Value}, es[i]? = some e → e[k]? = some v → es.flatten[i * sz + k]? = some v
  | [], _, i, k, e, v, hi, _ => by simp at hi
  | x :: es, hl, 0, k, e, v, hi, hk => by
    simp only [List.getElem?_cons_zero, Option.some.injEq] at hi
    subst hi
    have hlt : k < x.length := (List.getElem?_eq_some_iff.1 hk).1
    simp only [List.flatten_cons, Nat.zero_mul, Nat.zero_add]
    rw [List.getElem?_append_left hlt]
    exact hk
  | x :: es, hl, i + 1, k, e, v, hi, hk => by
    have hx : x.length = sz := hl x (by simp)
    simp only [List.getElem?_cons_succ] at hi
    have ih := flat_get (fun y hy => hl y (by simp [hy])) hi hk
    simp only [List.flatten_cons]
    rw [List.getElem?_append_right (by rw [hx, Nat.add_mul]; omega), hx]
    have : (i + 1) * sz + k - sz = i * sz + k := by rw [Nat.add_mul]; omega
    rw [this]
    exact ih

theorem flat_length {sz : Nat} : ∀ {es : List (List Value)} (_ : ∀ e ∈ es, e.length = sz), es.flatten.length = es.length * sz
  | [], _ => by simp
  | x :: es, hl => by
    simp only [List.flatten_cons, List.length_append, List.length_cons]
    rw [hl x (by simp), flat_length (fun y hy => hl y (by simp [hy])), Nat.add_mul]
    omega

theorem flat_set {sz : Nat} : ∀ {es : List (List Value)} (_ : ∀ e ∈ es, e.length = sz) {i k : Nat} {e : List Value} {v : Value}, es[i]? = some e → k < sz → (es.set i (e.set k v)).flatten = es.flatten.set (i * sz + k) v
  | [], _, i, k, e, v, hi, _ => by simp at hi
  | x :: es, hl, 0, k, e, v, hi, hk => by
    simp only [List.getElem?_cons_zero, Option.some.injEq] at hi
    subst hi
    have hx : x.length = sz := hl x (by simp)
    simp only [List.set_cons_zero, List.flatten_cons, Nat.zero_mul, Nat.zero_add]
    rw [List.set_append_left _ _ (by omega)]
  | x :: es, hl, i + 1, k, e, v, hi, hk => by
    have hx : x.length = sz := hl x (by simp)
    simp only [List.getElem?_cons_succ] at hi
    have ih := flat_set (fun y hy => hl y (by simp [hy])) (v := v) hi hk
    simp only [List.set_cons_succ, List.flatten_cons, ih]
    rw [List.set_append_right _ _ (by rw [hx, Nat.add_mul]; omega), hx]
    have : (i + 1) * sz + k - sz = i * sz + k := by rw [Nat.add_mul]; omega
    rw [this]

theorem flat_sub {sz : Nat} : ∀ {es : List (List Value)} (_ : ∀ e ∈ es, e.length = sz) (l : Nat), (es.drop l).flatten = es.flatten.drop (l * sz)
  | [], _, l => by simp
  | x :: es, hl, 0 => by simp
  | x :: es, hl, l + 1 => by
    have hx : x.length = sz := hl x (by simp)
    have ih := flat_sub (es := es) (fun y hy => hl y (List.mem_cons_of_mem _ hy)) l
    simp only [List.drop_succ_cons, ih, List.flatten_cons]
    rw [List.drop_append]
    have h1 : (l + 1) * sz - x.length = l * sz := by rw [hx, Nat.add_mul]; omega
    have h2 : x.length ≤ (l + 1) * sz := by rw [hx, Nat.add_mul]; omega
    rw [h1, List.drop_of_length_le h2]
    simp

/-! ### Reading a row -/
theorem RowOk.cell {w : World} {rw : Bool} {a : Addr} {cs : List Value} {m j : Nat} {v : Value} (h : RowOk w rw a cs m) (hj : cs[j]? = some v) : w.cell? (a.add j) = some v := by
  obtain ⟨hs, arr, el, fz, hh, _, _, _, hv⟩ := h
  obtain ⟨b, o, s⟩ := a
  simp only at hs hh hv
  subst hs
  rw [add_mk]
  simp only [World.cell?, hh, Option.isSome_none, Bool.false_eq_true, if_false]
  exact hv j v hj

theorem add_add {a : Addr} (hs : a.spot = none) (m n : Nat) : (a.add m).add n = a.add (m + n) := by
  obtain ⟨b, o, s⟩ := a
  simp only at hs
  subst hs
  simp [add_mk, Nat.add_assoc]

/-- The row's address, whatever the header; and the chunk again, with other elements. -/
theorem Chunk.ok.row {w : World} {rw : Bool} {c : Chunk} (h : c.ok w rw) (hne : 0 < c.es.length) :
    ∃ a m, RowOk w rw a c.es.flatten m ∧ c.blk = some a.block ∧ (∀ x y, adr c.h c.sz x y = .pointer (some (a.add (x * c.sz + y)))) ∧
      ∀ (w' : World) (rw' : Bool) (es' : List (List Value)), es'.length = c.es.length → (∀ e ∈ es', e.length = c.sz) → RowOk w' rw' a es'.flatten m → (⟨c.h, c.sz, es'⟩ : Chunk).ok w' rw' := by
  obtain ⟨hd, sz, es⟩ := c
  obtain ⟨h0, h1, h2⟩ := h
  simp only at h0 h1 h2 hne ⊢
  cases hd with
  | pointer a =>
    cases a with
    | none => exact h2.elim
    | some a => exact ⟨a, _, h2, rfl, fun _ _ => rfl, fun w' rw' es' hl hs hr => ⟨h0, hs, by simp only [hl]; exact hr⟩⟩
  | slice a n cap =>
    cases a with
    | none => rw [h2.2.2] at hne; simp at hne
    | some a =>
      have hc : 0 < cap := by omega
      exact ⟨a, _, h2.2.2 hc, by simp only [Chunk.blk, blkOf]; rw [if_neg (by omega)], fun _ _ => rfl, fun w' rw' es' hl hs hr => ⟨h0, hs, by simp only [hl]; exact ⟨h2.1, h2.2.1, fun _ => hr⟩⟩⟩
  | iface g v => rw [h2.1] at hne; simp at hne
  | _ => exact h2.elim

theorem Chunk.ok.at_ {w : World} {rw : Bool} {c : Chunk} (h : c.ok w rw) {i k : Nat} {e : List Value} {v : Value} (hi : c.es[i]? = some e) (hk : e[k]? = some v) :
    ∃ a m, RowOk w rw a c.es.flatten m ∧ c.blk = some a.block ∧ (∀ x y, adr c.h c.sz x y = .pointer (some (a.add (x * c.sz + y)))) ∧ w.cell? (a.add (i * c.sz + k)) = some v := by
  obtain ⟨a, m, h1, h2, h3, _⟩ := h.row (by have := (List.getElem?_eq_some_iff.1 hi).1; omega)
  exact ⟨a, m, h1, h2, h3, h1.cell (flat_get h.2.1 hi hk)⟩

theorem mem_ok {w : World} {ro ch : List Chunk} {c : Chunk} (hs : St w ro ch) (h : c ∈ ro ++ ch) : c.ok w false := by
  rcases List.mem_append.1 h with h | h
  · exact hs.rok c h
  · exact (hs.wok c h).weak

/-- An operation that yields one value in every world in which the chunks stand. -/
def OpV (P : Program) (N : Nat) (ro ch : List Chunk) (o : Oper) (sl : Slots) (v : Value) : Prop :=
  ∀ a w, Kn a N sl → St w ro ch → (execOp a.eval o).run P w = .ok (.value v) w

theorem opk_of_opv {P : Program} {N : Nat} {ro : List Chunk} {o : Oper} {sl : Slots} {ch : List Chunk} {R : KPred} {v : Value} (h : OpV P N ro ch o sl v) (hR : R (putS o.dst v sl) ch) : OpK P N ro o sl ch R :=
  opk_pure h hR

theorem kops_v {E : Env} {ops : Array Oper} {Q : Exit → KPred} {o : Oper} {l : List Oper} {sl : Slots} {ch : List Chunk} {v : Value} (hg : o.guard = none)
    (h : OpV E.P E.N E.ro ch o sl v) (hR : KOps E ops Q l (putS o.dst v sl) ch) : KOps E ops Q (o :: l) sl ch := kops_step hg (opk_of_opv h hR)

section
variable {P : Program} {N : Nat} {ro : List Chunk} {o : Oper} {sl : Slots} {ch : List Chunk}

/-- Reading one cell. -/
theorem opv_load {t : TypeId} {x : Operand} {h : Value} {sz i k : Nat} {es : List (List Value)} {e : List Value} {v : Value}
    (ho : o.op = .load t x) (hx : kev N sl x = some (adr h sz i k)) (hag : ∀ w, (isAgg t).run P w = .ok false w)
    (hm : (⟨h, sz, es⟩ : Chunk) ∈ ro ++ ch) (hi : es[i]? = some e) (hk : e[k]? = some v) : OpV P N ro ch o sl v := by
  intro a w hkn hs
  obtain ⟨ad, m, hrow, _, had, hc⟩ := (mem_ok hs hm).at_ hi hk
  have hev := hkn.ev hx
  simp only at had hc
  rw [had] at hev
  unfold execOp
  simp [ho, hev, Instr.loadAt, Instr.sureAddr, loadVar, hag, hc]

/-- Reading a whole element. -/
theorem opv_load_agg {t : TypeId} {x : Operand} {h : Value} {sz i : Nat} {es : List (List Value)} {e : List Value}
    (ho : o.op = .load t x) (hx : kev N sl x = some (adr h sz i 0)) (hag : ∀ w, (isAgg t).run P w = .ok true w) (hsz : ∀ w, (sizeOf t).run P w = .ok sz w)
    (hm : (⟨h, sz, es⟩ : Chunk) ∈ ro ++ ch) (hi : es[i]? = some e) : OpV P N ro ch o sl (.agg e.toArray) := by
  intro a w hkn hs
  have hok := mem_ok hs hm
  have hlen : e.length = sz := hok.2.1 e (List.mem_of_getElem? hi)
  have hpos : 0 < sz := hok.1
  have h0 : e[0]? = some e[0] := List.getElem?_eq_getElem (by omega)
  obtain ⟨ad, m, hrow, _, had, hc⟩ := hok.at_ hi h0
  have hev := hkn.ev hx
  simp only at had hc hrow
  rw [had] at hev
  have hl := run_loadCells_list (P := P) w (ad.add (i * sz)) e (fun j v hj => by
    rw [add_add hrow.1]
    exact hrow.cell (flat_get hok.2.1 hi hj))
  rw [hlen] at hl
  unfold execOp
  simp [ho, hev, Instr.loadAt, Instr.sureAddr, loadVar, hag, hsz, hl]

/-- The same at a variable's own box. -/
theorem adr_box (p : Addr) (sz : Nat) : adr (.pointer (some p)) sz 0 0 = .pointer (some p) := by
  simp [adr, Addr.add]

theorem opv_load_box {t : TypeId} {x : Operand} {p : Addr} {sz : Nat} {e : List Value}
    (ho : o.op = .load t x) (hx : kev N sl x = some (.pointer (some p))) (hag : ∀ w, (isAgg t).run P w = .ok true w) (hsz : ∀ w, (sizeOf t).run P w = .ok sz w)
    (hm : (⟨.pointer (some p), sz, [e]⟩ : Chunk) ∈ ro ++ ch) : OpV P N ro ch o sl (.agg e.toArray) :=
  opv_load_agg (h := .pointer (some p)) (i := 0) (es := [e]) ho (by rw [adr_box]; exact hx) hag hsz hm rfl

theorem opv_load_box1 {t : TypeId} {x : Operand} {p : Addr} {sz : Nat} {v : Value} {e : List Value}
    (ho : o.op = .load t x) (hx : kev N sl x = some (.pointer (some p))) (hag : ∀ w, (isAgg t).run P w = .ok false w)
    (hm : (⟨.pointer (some p), sz, [v :: e]⟩ : Chunk) ∈ ro ++ ch) : OpV P N ro ch o sl v :=
  opv_load (h := .pointer (some p)) (i := 0) (k := 0) (es := [v :: e]) ho (by rw [adr_box]; exact hx) hag hm rfl rfl

/-! ### Addresses -/
theorem opv_fieldAddr {s : TypeId} {x : Operand} {f : Nat} {h : Value} {sz i k : Nat} {fs : Array Field} {fd : Field} {es : List (List Value)}
    (ho : o.op = .fieldAddr s x f) (hx : kev N sl x = some (adr h sz i k)) (hu : ∀ w, (underlying s).run P w = .ok (.struct fs) w) (hf : fs[f]? = some fd)
    (hpl : ∀ a w, (fieldPlace a fd).run P w = .ok (a.add fd.offset) w) (hm : (⟨h, sz, es⟩ : Chunk) ∈ ro ++ ch) (hi : i < es.length)
    : OpV P N ro ch o sl (adr h sz i (k + fd.offset)) := by
  intro a w hkn hs
  have hok := mem_ok hs hm
  have hie : es[i]? = some es[i] := List.getElem?_eq_getElem hi
  have hlen : es[i].length = sz := hok.2.1 _ (List.getElem_mem hi)
  have hpos : 0 < sz := hok.1
  obtain ⟨ad, m, hrow, _, had, _⟩ := hok.at_ (k := 0) hie (List.getElem?_eq_getElem (by omega))
  have hev := hkn.ev hx
  simp only at had
  rw [had] at hev
  rw [had]
  unfold execOp
  simp [ho, hev, Instr.fieldAt, Instr.sureAddr, hu, hf, hpl, add_add hrow.1, Nat.add_assoc]

theorem opv_fieldAddr_box {s : TypeId} {x : Operand} {f : Nat} {p : Addr} {sz : Nat} {fs : Array Field} {fd : Field} {e : List Value}
    (ho : o.op = .fieldAddr s x f) (hx : kev N sl x = some (.pointer (some p))) (hu : ∀ w, (underlying s).run P w = .ok (.struct fs) w) (hf : fs[f]? = some fd)
    (hpl : ∀ a w, (fieldPlace a fd).run P w = .ok (a.add fd.offset) w) (hm : (⟨.pointer (some p), sz, [e]⟩ : Chunk) ∈ ro ++ ch)
    : OpV P N ro ch o sl (adr (.pointer (some p)) sz 0 fd.offset) := by
  have h := opv_fieldAddr (h := .pointer (some p)) (i := 0) (k := 0) (es := [e]) ho (by rw [adr_box]; exact hx) hu hf hpl hm (by simp)
  simpa using h

theorem opv_indexAddr {t e : TypeId} {x ix : Operand} {a : Option Addr} {n c sz : Nat} {k : IntKind} {i : Int} {es : List (List Value)}
    (ho : o.op = .indexAddr t x ix) (hx : kev N sl x = some (.slice a n c)) (hi : kev N sl ix = some (.int k i))
    (hu : ∀ w, (underlying t).run P w = .ok (.slice e) w) (hsz : ∀ w, (sizeOf e).run P w = .ok sz w)
    (hm : (⟨.slice a n c, sz, es⟩ : Chunk) ∈ ro ++ ch) (h0 : 0 ≤ i) (hn : i < es.length)
    : OpV P N ro ch o sl (adr (.slice a n c) sz i.toNat 0) := by
  intro ac w hkn hs
  have hok := mem_ok hs hm
  have hx := hkn.ev hx
  have hi := hkn.ev hi
  obtain ⟨hp, _, hh⟩ := hok
  cases a with
  | none =>
    simp only at hh
    rw [hh.2.2] at hn
    simp at hn
    omega
  | some ad =>
    simp only at hh
    obtain ⟨hlen, _, _⟩ := hh
    have hn' : 0 ≤ i ∧ i < (n : Int) := ⟨h0, by rw [hlen]; exact hn⟩
    unfold execOp
    simp [ho, hx, hi, Instr.indexAt, asIntOf, hu, hsz, hn', adr]

/-! ### Numbers -/
theorem opv_move {x : Operand} {v : Value} (ho : o.op = .move x) (hx : kev N sl x = some v) : OpV P N ro ch o sl v :=
  fun a w hkn _ => by unfold execOp; simp [ho, hkn.ev hx]

theorem opv_assign {x : Operand} {v : Value} (ho : o.op = .assign x) (hx : kev N sl x = some v) : OpV P N ro ch o sl v :=
  fun a w hkn _ => by unfold execOp; simp [ho, hkn.ev hx]

theorem opv_pick_t {c x y : Operand} {b : Bool} {v : Value} (ho : o.op = .pick c x y) (hc : kev N sl c = some (.bool b)) (hx : kev N sl x = some v) (hb : b = true)
    : OpV P N ro ch o sl v :=
  fun a w hkn _ => by
    have h1 := hkn.ev hc
    rw [hb] at h1
    unfold execOp; simp [ho, h1, hkn.ev hx, asBool]

theorem opv_pick_f {c x y : Operand} {b : Bool} {v : Value} (ho : o.op = .pick c x y) (hc : kev N sl c = some (.bool b)) (hx : kev N sl y = some v) (hb : b = false)
    : OpV P N ro ch o sl v :=
  fun a w hkn _ => by
    have h1 := hkn.ev hc
    rw [hb] at h1
    unfold execOp; simp [ho, h1, hkn.ev hx, asBool]

/-- What a test of two numbers says. -/
def cmpB : BinOp → Int → Int → Option Bool
  | .eql, a, b => some (a == b)
  | .neq, a, b => some (a != b)
  | .lss, a, b => some (decide (a < b))
  | .leq, a, b => some (decide (a ≤ b))
  | .gtr, a, b => some (decide (b < a))
  | .geq, a, b => some (decide (b ≤ a))
  | _, _, _ => none

theorem opv_cmp {op : BinOp} {t u : TypeId} {x y : Operand} {k : IntKind} {a b : Int} {r : Bool} (ho : o.op = .binOp op t x y u) (hx : kev N sl x = some (.int k a)) (hy : kev N sl y = some (.int k b))
    (hc : cmpB op a b = some r) : OpV P N ro ch o sl (.bool r) :=
  fun ac w hkn _ => by
    have h1 := hkn.ev hx
    have h2 := hkn.ev hy
    unfold execOp
    cases op <;> simp only [cmpB, Option.some.injEq, reduceCtorEq] at hc <;> subst hc <;> simp [ho, h1, h2, eqGuard, binOp, Op.intCmp]

/-- Sums, differences and products, wrapped. -/
def ariB (k : IntKind) : BinOp → Int → Int → Option Int
  | .add, a, b => some (k.wrap (a + b))
  | .sub, a, b => some (k.wrap (a - b))
  | .mul, a, b => some (k.wrap (a * b))
  | _, _, _ => none

theorem opv_ari {op : BinOp} {t u : TypeId} {x y : Operand} {k : IntKind} {a b r : Int} (ho : o.op = .binOp op t x y u) (hx : kev N sl x = some (.int k a)) (hy : kev N sl y = some (.int k b))
    (hc : ariB k op a b = some r) : OpV P N ro ch o sl (.int k r) :=
  fun ac w hkn _ => by
    have h1 := hkn.ev hx
    have h2 := hkn.ev hy
    unfold execOp
    cases op <;> simp only [ariB, Option.some.injEq, reduceCtorEq] at hc <;> subst hc <;> simp [ho, h1, h2, eqGuard, binOp, Op.intArith]

theorem wrap_in {x : Int} (h1 : -9223372036854775808 ≤ x) (h2 : x ≤ 9223372036854775807) : IntKind.i64.wrap x = x := IntWalk.i64_in _ ⟨h1, h2⟩

theorem opv_add {t u : TypeId} {x y : Operand} {a b : Int} (ho : o.op = .binOp .add t x y u) (hx : kev N sl x = some (.int .i64 a)) (hy : kev N sl y = some (.int .i64 b))
    (hr : -9223372036854775808 ≤ a + b ∧ a + b ≤ 9223372036854775807) : OpV P N ro ch o sl (.int .i64 (a + b)) :=
  opv_ari ho hx hy (by simp only [ariB]; rw [wrap_in hr.1 hr.2])

theorem opv_sub {t u : TypeId} {x y : Operand} {a b : Int} (ho : o.op = .binOp .sub t x y u) (hx : kev N sl x = some (.int .i64 a)) (hy : kev N sl y = some (.int .i64 b))
    (hr : -9223372036854775808 ≤ a - b ∧ a - b ≤ 9223372036854775807) : OpV P N ro ch o sl (.int .i64 (a - b)) :=
  opv_ari ho hx hy (by simp only [ariB]; rw [wrap_in hr.1 hr.2])

theorem opv_mul {t u : TypeId} {x y : Operand} {a b : Int} (ho : o.op = .binOp .mul t x y u) (hx : kev N sl x = some (.int .i64 a)) (hy : kev N sl y = some (.int .i64 b))
    (hr : -9223372036854775808 ≤ a * b ∧ a * b ≤ 9223372036854775807) : OpV P N ro ch o sl (.int .i64 (a * b)) :=
  opv_ari ho hx hy (by simp only [ariB]; rw [wrap_in hr.1 hr.2])

theorem opv_quo {t u : TypeId} {x y : Operand} {k : IntKind} {a b : Int} (ho : o.op = .binOp .quo t x y u) (hx : kev N sl x = some (.int k a)) (hy : kev N sl y = some (.int k b))
    (h0 : b ≠ 0) : OpV P N ro ch o sl (.int k (k.wrap (a.tdiv b))) :=
  fun ac w hkn _ => by unfold execOp; simp [ho, hkn.ev hx, hkn.ev hy, eqGuard, binOp, Op.intDiv, h0]

theorem opv_rem {t u : TypeId} {x y : Operand} {k : IntKind} {a b : Int} (ho : o.op = .binOp .rem t x y u) (hx : kev N sl x = some (.int k a)) (hy : kev N sl y = some (.int k b))
    (h0 : b ≠ 0) : OpV P N ro ch o sl (.int k (a.tmod b)) :=
  fun ac w hkn _ => by unfold execOp; simp [ho, hkn.ev hx, hkn.ev hy, eqGuard, binOp, Op.intDiv, h0]

theorem opv_not {t : TypeId} {x : Operand} {b : Bool} (ho : o.op = .unOp .not t x) (hx : kev N sl x = some (.bool b)) : OpV P N ro ch o sl (.bool (!b)) :=
  fun a w hkn _ => by unfold execOp; simp [ho, hkn.ev hx, Op.unary]

theorem opv_neg {t : TypeId} {x : Operand} {k : IntKind} {a : Int} (ho : o.op = .unOp .neg t x) (hx : kev N sl x = some (.int k a)) : OpV P N ro ch o sl (.int k (k.wrap (0 - a))) :=
  fun ac w hkn _ => by unfold execOp; simp [ho, hkn.ev hx, Op.unary, Op.intArith]

theorem opv_eqb {t u : TypeId} {x y : Operand} {a b : Bool} (ho : o.op = .binOp .eql t x y u) (hx : kev N sl x = some (.bool a)) (hy : kev N sl y = some (.bool b))
    (hu : P.underlying t = some .bool) : OpV P N ro ch o sl (.bool (a == b)) :=
  fun ac w hkn _ => by unfold execOp; simp [ho, hkn.ev hx, hkn.ev hy, eqGuard, binOp, Op.equal, Op.maxDepth, run_equalIn_bool' w _ t a b hu]

theorem opv_neb {t u : TypeId} {x y : Operand} {a b : Bool} (ho : o.op = .binOp .neq t x y u) (hx : kev N sl x = some (.bool a)) (hy : kev N sl y = some (.bool b))
    (hu : P.underlying t = some .bool) : OpV P N ro ch o sl (.bool (!(a == b))) :=
  fun ac w hkn _ => by unfold execOp; simp [ho, hkn.ev hx, hkn.ev hy, eqGuard, binOp, Op.equal, Op.maxDepth, run_equalIn_bool' w _ t a b hu]

theorem opv_len {t ty : TypeId} {x : Operand} {a : Option Addr} {n c : Nat} {e : TypeId} (ho : o.op = .call { callee := .builtin .len, args := #[x], argTypes := #[t] }) (hty : o.type = ty)
    (hx : kev N sl x = some (.slice a n c)) (hu : ∀ w, (underlying t).run P w = .ok (.slice e) w) : OpV P N ro ch o sl (.int .i64 n) :=
  fun ac w hkn _ => by unfold execOp; simp [ho, hty, hkn.ev hx, resolve, invoke, builtin, Builtin.len_, hu, goInt]

theorem opv_min {t u : TypeId} {x y : Operand} {k : IntKind} {a b : Int} (ho : o.op = .call { callee := .builtin .min, args := #[x, y], argTypes := #[t, u] })
    (hx : kev N sl x = some (.int k a)) (hy : kev N sl y = some (.int k b)) : OpV P N ro ch o sl (.int k (min a b)) :=
  fun ac w hkn _ => by
    have e : (if b < a then b else a) = min a b := by rw [Int.min_def]; split <;> split <;> omega
    unfold execOp; simp [ho, hkn.ev hx, hkn.ev hy, resolve, invoke, builtin, Builtin.min_, Builtin.min2, e]

theorem opv_max {t u : TypeId} {x y : Operand} {k : IntKind} {a b : Int} (ho : o.op = .call { callee := .builtin .max, args := #[x, y], argTypes := #[t, u] })
    (hx : kev N sl x = some (.int k a)) (hy : kev N sl y = some (.int k b)) : OpV P N ro ch o sl (.int k (max a b)) :=
  fun ac w hkn _ => by
    have e : (if a < b then b else a) = max a b := by rw [Int.max_def]; split <;> split <;> omega
    unfold execOp; simp [ho, hkn.ev hx, hkn.ev hy, resolve, invoke, builtin, Builtin.max_, Builtin.max2, e]

theorem opv_conv {s d : TypeId} {x : Operand} {k kd : IntKind} {a : Int} {ds : TypeDesc} (ho : o.op = .convert s d x) (hx : kev N sl x = some (.int k a))
    (hus : ∀ w, (underlying s).run P w = .ok ds w) (hud : ∀ w, (underlying d).run P w = .ok (.int kd) w) : OpV P N ro ch o sl (.int kd (kd.wrap a)) :=
  fun ac w hkn _ => by unfold execOp; simp [ho, hkn.ev hx, convert, hus, hud, Conv.intToInt]

theorem opv_extract {x : Operand} {i : Nat} {vs : Array Value} {v : Value} (ho : o.op = .extract x i) (hx : kev N sl x = some (.tuple vs)) (hi : vs[i]? = some v) : OpV P N ro ch o sl v :=
  fun ac w hkn _ => by unfold execOp; simp [ho, hkn.ev hx, Instr.extract, hi]

/-- Two structs of numbers are compared. -/
theorem opv_neq_agg {t u : TypeId} {x y : Operand} {xs ys : Array Value} {r : Bool} (ho : o.op = .binOp .neq t x y u) (hx : kev N sl x = some (.agg xs)) (hy : kev N sl y = some (.agg ys))
    (hg : P.eqGuardType P.depth t = false) (ht : P.underlying t = some (.struct (P.fieldsOf t))) (hp : P.stoodInHeld t = false)
    (he : ∀ w, (Op.eqFields 9999 xs ys (P.fieldsOf t).toList).run P w = .ok r w) : OpV P N ro ch o sl (.bool (!r)) :=
  fun a w hkn _ => by
    have h1 := run_equalIn_struct (P := P) w 9999 t xs ys ht hp
    rw [he] at h1
    have h2 := run_eqGuard_agg (P := P) w .neq t x y xs ys hg
    unfold execOp
    simp [ho, hkn.ev hx, hkn.ev hy, h2, run_neq_struct, h1]

theorem opv_eql_agg {t u : TypeId} {x y : Operand} {xs ys : Array Value} {r : Bool} (ho : o.op = .binOp .eql t x y u) (hx : kev N sl x = some (.agg xs)) (hy : kev N sl y = some (.agg ys))
    (hg : P.eqGuardType P.depth t = false) (ht : P.underlying t = some (.struct (P.fieldsOf t))) (hp : P.stoodInHeld t = false)
    (he : ∀ w, (Op.eqFields 9999 xs ys (P.fieldsOf t).toList).run P w = .ok r w) : OpV P N ro ch o sl (.bool r) :=
  fun a w hkn _ => by
    have h1 := run_equalIn_struct (P := P) w 9999 t xs ys ht hp
    rw [he] at h1
    have h2 := run_eqGuard_agg (P := P) w .eql t x y xs ys hg
    unfold execOp
    simp [ho, hkn.ev hx, hkn.ev hy, h2, run_eql_struct, h1]

theorem opv_field {t : TypeId} {x : Operand} {f : Nat} {cs : Array Value} {fs : Array Field} {fd : Field} {v : Value} (ho : o.op = .field t x f) (hx : kev N sl x = some (.agg cs))
    (hu : ∀ w, (underlying t).run P w = .ok (.struct fs) w) (hf : fs[f]? = some fd) (hag : ∀ w, (isAgg fd.type).run P w = .ok false w) (hv : cs[fd.offset]? = some v) : OpV P N ro ch o sl v :=
  fun a w hkn _ => by unfold execOp; simp [ho, hkn.ev hx, Instr.field, hu, hf, asAgg, part, hag, hv]

/-- A struct or an array by its parts. -/
theorem opv_build {t : TypeId} {ps : Array (Nat × Operand)} {vs : List (Nat × Value)} {z : Value} {fs : Array Field} {places : Array (Nat × Nat)} {cells : Array Value} (ho : o.op = .build t ps)
    (hx : ps.toList.map (fun p => (p.1, kev N sl p.2)) = vs.map (fun p => (p.1, some p.2))) (hz : ∀ w, (zeroValue t).run P w = .ok z w) (hu : ∀ w, (underlying t).run P w = .ok (.struct fs) w)
    (hpl : ∀ w, (fs.mapM (fun (f : Field) => (do pure (f.offset, ← sizeOf f.type) : Sem (Nat × Nat)))).run P w = .ok places w) (hf : Instr.fill (places[·]?) z.cells vs = some cells) : OpV P N ro ch o sl (.agg cells) :=
  fun a w hkn _ => by
    have hvs : (ps.map fun p => (p.1, a.eval p.2)).toList = vs := by
      rw [Array.toList_map]
      have : ∀ (l : List (Nat × Operand)) (vs : List (Nat × Value)), l.map (fun p => (p.1, kev N sl p.2)) = vs.map (fun p => (p.1, some p.2)) → l.map (fun p => (p.1, a.eval p.2)) = vs := by
        intro l
        induction l with
        | nil => intro vs h; cases vs <;> simp_all
        | cons q l ih =>
          intro vs h
          cases vs with
          | nil => simp at h
          | cons v vs =>
            obtain ⟨v1, v2⟩ := v
            obtain ⟨q1, q2⟩ := q
            simp only [List.map_cons, List.cons.injEq, Prod.mk.injEq] at h ⊢
            exact ⟨⟨h.1.1, hkn.ev h.1.2⟩, ih vs h.2⟩
      exact this _ _ hx
    have e : (ps.map fun (i, x) => (i, a.eval x)) = vs.toArray := Array.toList_inj.1 (by simpa using hvs)
    have h0 : execOp a.eval o = (do pure (.value (← Instr.build t (ps.map fun (i, x) => (i, a.eval x))))) := by unfold execOp; rw [ho]
    rw [h0, e]
    have h1 : (Instr.build t vs.toArray).run P w = .ok (.agg cells) w := by
      unfold Instr.build
      simp only [Sem.run_bind, hz, Result.andThen_ok, hu, hpl]
      simp only [hf, Sem.run_pure]
    simp [h1]

theorem opv_index_str {t : TypeId} {x ix : Operand} {s : ByteArray} {k : IntKind} {i : Int} {b : UInt8} (ho : o.op = .index t x ix) (hx : kev N sl x = some (.string s)) (hi : kev N sl ix = some (.int k i))
    (hu : ∀ w, (underlying t).run P w = .ok .string w) (h0 : 0 ≤ i) (hb : s[i.toNat]? = some b) : OpV P N ro ch o sl (.int .u8 b.toNat) :=
  fun a w hkn _ => by unfold execOp; simp [ho, hkn.ev hx, hkn.ev hi, Instr.index, asIntOf, hu, h0, hb]

theorem opv_len_str {t : TypeId} {x : Operand} {s : ByteArray} (ho : o.op = .call { callee := .builtin .len, args := #[x], argTypes := #[t] })
    (hx : kev N sl x = some (.string s)) (hu : ∀ w, (underlying t).run P w = .ok .string w) : OpV P N ro ch o sl (.int .i64 s.size) :=
  fun a w hkn _ => by unfold execOp; simp [ho, hkn.ev hx, resolve, invoke, builtin, Builtin.len_, hu, goInt]

theorem opv_shl {t u : TypeId} {x y : Operand} {k k' : IntKind} {a b : Int} (ho : o.op = .binOp .shl t x y u) (hx : kev N sl x = some (.int k a)) (hy : kev N sl y = some (.int k' b))
    (h0 : 0 ≤ b) : OpV P N ro ch o sl (.int k (k.wrap (a * 2 ^ min b.toNat k.bits))) :=
  fun ac w hkn _ => by
    have h0' : ¬ b < 0 := by omega
    unfold execOp; simp [ho, hkn.ev hx, hkn.ev hy, eqGuard, binOp, Op.shift, h0']

theorem opv_shr {t u : TypeId} {x y : Operand} {k k' : IntKind} {a b : Int} (ho : o.op = .binOp .shr t x y u) (hx : kev N sl x = some (.int k a)) (hy : kev N sl y = some (.int k' b))
    (h0 : 0 ≤ b) : OpV P N ro ch o sl (.int k (a.fdiv (2 ^ min b.toNat k.bits))) :=
  fun ac w hkn _ => by
    have h0' : ¬ b < 0 := by omega
    unfold execOp; simp [ho, hkn.ev hx, hkn.ev hy, eqGuard, binOp, Op.shift, h0']

/-- Bits of two numbers. -/
def bitB (k : IntKind) : BinOp → Int → Int → Option Int
  | .and, a, b => some (k.wrap (BitVec.ofInt k.bits a &&& BitVec.ofInt k.bits b).toNat)
  | .or, a, b => some (k.wrap (BitVec.ofInt k.bits a ||| BitVec.ofInt k.bits b).toNat)
  | .xor, a, b => some (k.wrap (BitVec.ofInt k.bits a ^^^ BitVec.ofInt k.bits b).toNat)
  | _, _, _ => none

theorem opv_bit {op : BinOp} {t u : TypeId} {x y : Operand} {k : IntKind} {a b r : Int} (ho : o.op = .binOp op t x y u) (hx : kev N sl x = some (.int k a)) (hy : kev N sl y = some (.int k b))
    (hc : bitB k op a b = some r) : OpV P N ro ch o sl (.int k r) :=
  fun ac w hkn _ => by
    have h1 := hkn.ev hx
    have h2 := hkn.ev hy
    unfold execOp
    cases op <;> simp only [bitB, Option.some.injEq, reduceCtorEq] at hc <;> subst hc <;> simp [ho, h1, h2, eqGuard, binOp, Op.intBits]

/-- A slice of a slice: its header. -/
def subS (a : Option Addr) (c sz l h : Nat) : Value := .slice (if c = l then a else a.map (·.add (l * sz))) (h - l) (c - l)

theorem opv_slice {t e : TypeId} {x : Operand} {lo hi : Option Operand} {a : Option Addr} {n c sz l h : Nat} (ho : o.op = .slice t x lo hi none) (hx : kev N sl x = some (.slice a n c))
    (hu : ∀ w, (underlying t).run P w = .ok (.slice e) w) (hsz : ∀ w, (sizeOf e).run P w = .ok sz w)
    (hlo : match lo with | none => l = 0 | some y => ∃ k, kev N sl y = some (.int k l)) (hhi : match hi with | none => h = n | some y => ∃ k, kev N sl y = some (.int k h))
    (hlh : l ≤ h) (hn : h ≤ c) : OpV P N ro ch o sl (subS a c sz l h) :=
  fun ac w hkn _ => by
    have hx' := hkn.ev hx
    unfold execOp
    have hh : (match hi with | some v => Instr.sliceBound (ac.eval v) c .sliceAcap | none => pure n : Sem Nat).run P w = .ok h w := by
      cases hi with
      | none => simp only at hhi; subst hhi; rfl
      | some y =>
        obtain ⟨k, hy⟩ := hhi
        simp [Instr.sliceBound, asIntOf, hkn.ev hy, hn]
    have hl : (match lo with | some v => Instr.sliceBound (ac.eval v) h .sliceB | none => pure 0 : Sem Nat).run P w = .ok l w := by
      cases lo with
      | none => simp only at hlo; subst hlo; rfl
      | some y =>
        obtain ⟨k, hy⟩ := hlo
        simp [Instr.sliceBound, asIntOf, hkn.ev hy, hlh]
    cases lo <;> cases hi <;> simp only [] at hh hl <;>
      simp [ho, hx', Instr.sliceAt, hu, Instr.slice, Instr.sliceBounds, hh, hl, hsz, subS] <;> simp_all

end
end Go.Proofs.YtpfijnklnljccaaDoor
