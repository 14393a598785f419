/- Small rules that the walks' scripts apply are proved here; no condition on the program. -/
import Derived.Test.YtpfijnklnljccaaDoorKe
namespace Go.Proofs.YtpfijnklnljccaaDoor
open Go

/-! ### The ends of pieces of code -/
section
variable {n : KPred} {Q : Exit → KPred} {sl : Slots} {ch : List Chunk} {id id' : Nat}
theorem kn_then (h : n sl ch) : KThen n Q .normal sl ch := h
theorem kn_block (h : Q .normal sl ch) : KBlock id Q .normal sl ch := h
theorem ke_then (h : Q (.exit id) sl ch) : KThen n Q (.exit id) sl ch := h
theorem ke_block (h : Q .normal sl ch) : KBlock id Q (.exit id) sl ch := by simp only [KBlock, if_true]; exact h
theorem ke_other (hne : id' ≠ id) (h : Q (.exit id') sl ch) : KBlock id Q (.exit id') sl ch := by simp only [KBlock, if_neg hne]; exact h
theorem kr_then (h : Q .ret sl ch) : KThen n Q .ret sl ch := h
theorem kr_block (h : Q .ret sl ch) : KBlock id Q .ret sl ch := h
end

/-! ### Tests -/
theorem kwp_cond_t {E : Env} {c : Operand} {x y : Code} {b : Bool} {Q : Exit → KPred} {sl : Slots} {ch : List Chunk}
    (hc : kev E.N sl c = some (.bool b)) (hb : b = true) (h : KWp E x Q sl ch) : KWp E (.cond c x y) Q sl ch :=
  kwp_cond hc (fun _ => h) (fun h2 => by rw [hb] at h2; cases h2)

theorem kwp_cond_f {E : Env} {c : Operand} {x y : Code} {b : Bool} {Q : Exit → KPred} {sl : Slots} {ch : List Chunk}
    (hc : kev E.N sl c = some (.bool b)) (hb : b = false) (h : KWp E y Q sl ch) : KWp E (.cond c x y) Q sl ch :=
  kwp_cond hc (fun h2 => by rw [hb] at h2; cases h2) (fun _ => h)

theorem kops_split {E : Env} {ops : Array Oper} {Q : Exit → KPred} {l : List Oper} {sl : Slots} {ch : List Chunk} (t : Nat) {b : Bool} (_hb : kev E.N sl (.tmp t) = some (.bool b))
    (ht : b = true → KOps E ops Q l sl ch) (hf : b = false → KOps E ops Q l sl ch) : KOps E ops Q l sl ch := by
  cases b
  · exact hf rfl
  · exact ht rfl

theorem kseq_split {E : Env} {ops : Array Oper} {fins : List Nat} {cq : List Chunk} {Q : Exit → KPred} {l : List (Nat × Bool)} {sl : Slots} {ch : List Chunk} (t : Nat) {b : Bool} (_hb : kev E.N sl (.tmp t) = some (.bool b))
    (ht : b = true → KSeq E ops fins cq Q l sl ch) (hf : b = false → KSeq E ops fins cq Q l sl ch) : KSeq E ops fins cq Q l sl ch := by
  cases b
  · exact hf rfl
  · exact ht rfl

section
variable {E : Env} {ops : Array Oper} {Q : Exit → KPred} {o : Oper} {l : List Oper} {sl : Slots} {ch : List Chunk} {j d : Nat} {want b : Bool} {v : Value}
theorem kops_d (hg : o.guard = none) (hd : o.dst = some d) (h : OpV E.P E.N E.ro ch o sl v) (hR : KOps E ops Q l ((d, v) :: sl) ch) : KOps E ops Q (o :: l) sl ch :=
  kops_v hg h (by rw [hd]; exact hR)

theorem kops_gv (hg : o.guard = some (j, want)) (hj : (ops[j]?).bind (·.dst) = some d) (hb : kev E.N sl (.tmp d) = some (.bool b)) (hbw : b = want)
    (hv : OpV E.P E.N E.ro ch o sl v) (h : KOps E ops Q l (putS o.dst v sl) ch) : KOps E ops Q (o :: l) sl ch :=
  kops_guard hg hj hb (fun _ => opk_of_opv hv h) (fun h2 => (bne_both hbw h2).elim)

theorem kops_gd {d' : Nat} (hg : o.guard = some (j, want)) (hj : (ops[j]?).bind (·.dst) = some d) (hb : kev E.N sl (.tmp d) = some (.bool b)) (hbw : b = want) (hd : o.dst = some d')
    (hv : OpV E.P E.N E.ro ch o sl v) (h : KOps E ops Q l ((d', v) :: sl) ch) : KOps E ops Q (o :: l) sl ch :=
  kops_gv hg hj hb hbw hv (by rw [hd]; exact h)

theorem kops_gk (hg : o.guard = some (j, want)) (hj : (ops[j]?).bind (·.dst) = some d) (hb : kev E.N sl (.tmp d) = some (.bool b)) (hbw : b = want)
    (h : OpK E.P E.N E.ro o sl ch (KOps E ops Q l)) : KOps E ops Q (o :: l) sl ch :=
  kops_guard hg hj hb (fun _ => h) (fun h2 => (bne_both hbw h2).elim)

theorem kops_skip (hg : o.guard = some (j, want)) (hj : (ops[j]?).bind (·.dst) = some d) (hb : kev E.N sl (.tmp d) = some (.bool b)) (hbw : b = !want)
    (h : KOps E ops Q l (putS o.dst undef sl) ch) : KOps E ops Q (o :: l) sl ch :=
  kops_guard hg hj hb (fun h2 => (bne_both' hbw h2).elim) (fun _ => h)
end

/-! ### What a test says -/
theorem kb_eq {x y : Int} (h : (x == y) = true) : x = y := eq_of_beq h
theorem kb_ne {x y : Int} (h : (x == y) = false) : x ≠ y := ne_of_beq_false h
theorem kb_bne {x y : Int} (h : (x != y) = true) : x ≠ y := bne_iff_ne.1 h
theorem kb_nbne {x y : Int} (h : (x != y) = false) : x = y := by simpa using h
theorem kb_nd {p : Prop} [Decidable p] (h : (!(decide p)) = true) : ¬ p := by simpa using h
theorem kb_nnd {p : Prop} [Decidable p] (h : (!(decide p)) = false) : p := by simpa using h
/-- What a test tells, in plain words. -/
class Nm (p : Prop) (q : outParam Prop) : Prop where
  go : p → q
instance (priority := low) nm_id {b c : Bool} : Nm (b = c) (b = c) := ⟨id⟩
instance nm_dt {p : Prop} {i : Decidable p} : Nm (@decide p i = true) p := ⟨of_decide_eq_true⟩
instance nm_df {p : Prop} {i : Decidable p} : Nm (@decide p i = false) (¬ p) := ⟨of_decide_eq_false⟩
instance nm_et {x y : Int} : Nm ((x == y) = true) (x = y) := ⟨eq_of_beq⟩
instance nm_ef {x y : Int} : Nm ((x == y) = false) (¬ x = y) := ⟨fun h => by simpa using h⟩
instance nm_nt' {x y : Int} : Nm ((x != y) = true) (¬ x = y) := ⟨fun h => by simpa using h⟩
instance nm_nf' {x y : Int} : Nm ((x != y) = false) (x = y) := ⟨fun h => by simpa using h⟩
instance nm_t {b : Bool} {q : Prop} [i : Nm (b = false) q] : Nm ((!b) = true) q := ⟨fun h => i.go (by simpa using h)⟩
instance nm_f {b : Bool} {q : Prop} [i : Nm (b = true) q] : Nm ((!b) = false) q := ⟨fun h => i.go (by simpa using h)⟩
theorem nm {p q : Prop} [i : Nm p q] (h : p) : q := i.go h
theorem kb_nt {b : Bool} (h : (!b) = true) : b = false := by simpa using h
theorem kb_nf {b : Bool} (h : (!b) = false) : b = true := by simpa using h
theorem knot {b c : Bool} (h : b = c) : (!b) = !c := by rw [h]

theorem ks_d {E : Env} {ops : Array Oper} {fins : List Nat} {cq : List Chunk} {Q : Exit → KPred} {i d : Nat} {rest : List (Nat × Bool)} {oi : Oper} {sl : Slots} {ch : List Chunk} {v : Value} (hi : ops[i]? = some oi) (hg : oi.guard = none) (hd : oi.dst = some d)
    (hv : OpV E.P E.N E.ro cq oi sl v) (h : KSeq E ops fins cq Q rest ((d, v) :: sl) ch) : KSeq E ops fins cq Q ((i, true) :: rest) sl ch :=
  ks_v hi hg hv (by rw [hd]; exact h)

/-! ### Weakening -/
theorem Knows.cons2 {s2 s1 : Slots} {t : Nat} {v v' : Value} (h : get s1 t = some v') (e : v' = v) (g : Knows s2 s1) : Knows ((t, v) :: s2) s1 := by
  subst e; exact Knows.cons h g

theorem Sub.nil (c : List Chunk) : Sub [] c := ⟨c, by simp⟩

theorem Sub.cons {c1 c2 r : List Chunk} {c : Chunk} (hp : Pick c1 c r) (g : Sub c2 r) : Sub (c :: c2) c1 := by
  obtain ⟨s, h⟩ := g
  exact ⟨s, hp.perm.trans (by simpa using h.cons c)⟩

theorem Sub.chunk {c1 c2 r : List Chunk} {h : Value} {sz : Nat} {es es' : List (List Value)} (hp : Pick c1 ⟨h, sz, es'⟩ r) (e : es' = es) (g : Sub c2 r) : Sub (⟨h, sz, es⟩ :: c2) c1 := by
  subst e; exact Sub.cons hp g

theorem Sub.app {a b c : List Chunk} (h : Sub a b) : Sub a (b ++ c) := by
  obtain ⟨s, hp⟩ := h
  exact ⟨s ++ c, by rw [← List.append_assoc]; exact hp.append_right c⟩

theorem perm_nil (c : List Chunk) : c.Perm ([] ++ c) := .refl _

theorem perm_cons {c1 r rest fp : List Chunk} {c : Chunk} (hp : Pick c1 c r) (g : r.Perm (fp ++ rest)) : c1.Perm ((c :: fp) ++ rest) := by
  exact hp.perm.trans (g.cons c)

/-- A chunk whose elements are spelled otherwise. -/
theorem Pick.es {l r : List Chunk} {h : Value} {sz : Nat} {es es' : List (List Value)} (p : Pick l ⟨h, sz, es'⟩ r) (e : es' = es) : Pick l ⟨h, sz, es⟩ r := by subst e; exact p

/-! ### Loops -/
section
variable {E : Env} {c : Code} {Q : Exit → KPred} {sl : Slots} {ch : List Chunk}

/-- The relation at a loop's head, for one, two, three or four things that turn. -/
structure Hd (S : Slots) (C : List Chunk) (p : Prop) (sl : Slots) (ch : List Chunk) : Prop where
  p : p
  s : Knows S sl
  c : Sub C ch

theorem kwp_loop1 {A : Type} (inv : Slots) (ic : List Chunk) (S : A → Slots) (C : A → List Chunk) (p : A → Prop) (μ : A → Nat)
    (h0 : ∃ x, Hd (S x ++ inv) (C x ++ ic) (p x) sl ch)
    (round : ∀ x, p x → KWp E c (KThen (fun sl' ch' => ∃ y, Hd (S y ++ inv) (C y ++ ic) (p y) sl' ch' ∧ μ y < μ x) Q) (S x ++ inv) (C x ++ ic)) : KWp E (.loop c) Q sl ch := by
  refine kwp_loop (fun x => S x ++ inv) (fun x => C x ++ ic) p μ ?_ (fun x hx => kwp_mono (round x hx) ?_)
  · obtain ⟨x, h⟩ := h0; exact ⟨x, ⟨h.p, h.s, h.c⟩⟩
  · intro e s c h
    cases e <;> first | (obtain ⟨y, hy, hlt⟩ := h; exact ⟨y, ⟨hy.p, hy.s, hy.c⟩, hlt⟩) | exact h

theorem kwp_loop2 {A B : Type} (inv : Slots) (ic : List Chunk) (S : A → B → Slots) (C : A → B → List Chunk) (p : A → B → Prop) (μ : A → B → Nat)
    (h0 : ∃ x y, Hd (S x y ++ inv) (C x y ++ ic) (p x y) sl ch)
    (round : ∀ x y, p x y → KWp E c (KThen (fun sl' ch' => ∃ x' y', Hd (S x' y' ++ inv) (C x' y' ++ ic) (p x' y') sl' ch' ∧ μ x' y' < μ x y) Q) (S x y ++ inv) (C x y ++ ic)) : KWp E (.loop c) Q sl ch := by
  refine kwp_loop1 (A := A × B) inv ic (fun x => S x.1 x.2) (fun x => C x.1 x.2) (fun x => p x.1 x.2) (fun x => μ x.1 x.2) ?_ (fun x hx => kwp_mono (round x.1 x.2 hx) ?_)
  · obtain ⟨x, y, h⟩ := h0; exact ⟨(x, y), h⟩
  · intro e s c h
    cases e <;> first | (obtain ⟨x', y', h⟩ := h; exact ⟨(x', y'), h⟩) | exact h

theorem kwp_loop3 {A B C' : Type} (inv : Slots) (ic : List Chunk) (S : A → B → C' → Slots) (C : A → B → C' → List Chunk) (p : A → B → C' → Prop) (μ : A → B → C' → Nat)
    (h0 : ∃ x y z, Hd (S x y z ++ inv) (C x y z ++ ic) (p x y z) sl ch)
    (round : ∀ x y z, p x y z → KWp E c (KThen (fun sl' ch' => ∃ x' y' z', Hd (S x' y' z' ++ inv) (C x' y' z' ++ ic) (p x' y' z') sl' ch' ∧ μ x' y' z' < μ x y z) Q) (S x y z ++ inv) (C x y z ++ ic)) : KWp E (.loop c) Q sl ch := by
  refine kwp_loop2 (A := A × B) inv ic (fun x => S x.1 x.2) (fun x => C x.1 x.2) (fun x => p x.1 x.2) (fun x => μ x.1 x.2) ?_ (fun x z hx => kwp_mono (round x.1 x.2 z hx) ?_)
  · obtain ⟨x, y, z, h⟩ := h0; exact ⟨(x, y), z, h⟩
  · intro e s c h
    cases e <;> first | (obtain ⟨x', y', z', h⟩ := h; exact ⟨(x', y'), z', h⟩) | exact h

theorem kwp_loop4 {A B C' D : Type} (inv : Slots) (ic : List Chunk) (S : A → B → C' → D → Slots) (C : A → B → C' → D → List Chunk) (p : A → B → C' → D → Prop) (μ : A → B → C' → D → Nat)
    (h0 : ∃ x y z u, Hd (S x y z u ++ inv) (C x y z u ++ ic) (p x y z u) sl ch)
    (round : ∀ x y z u, p x y z u → KWp E c (KThen (fun sl' ch' => ∃ x' y' z' u', Hd (S x' y' z' u' ++ inv) (C x' y' z' u' ++ ic) (p x' y' z' u') sl' ch' ∧ μ x' y' z' u' < μ x y z u) Q) (S x y z u ++ inv) (C x y z u ++ ic)) : KWp E (.loop c) Q sl ch := by
  refine kwp_loop3 (A := A × B) inv ic (fun x => S x.1 x.2) (fun x => C x.1 x.2) (fun x => p x.1 x.2) (fun x => μ x.1 x.2) ?_ (fun x z u hx => kwp_mono (round x.1 x.2 z u hx) ?_)
  · obtain ⟨x, y, z, u, h⟩ := h0; exact ⟨(x, y), z, u, h⟩
  · intro e s c h
    cases e <;> first | (obtain ⟨x', y', z', u', h⟩ := h; exact ⟨(x', y'), z', u', h⟩) | exact h

/-- Ways that meet again between two pieces of code. -/
theorem kwp_cut {x y : Code} {A : Type} (inv : Slots) (ic : List Chunk) (S : A → Slots) (C : A → List Chunk) (p : A → Prop)
    (h : KWp E x (KThen (fun sl' ch' => ∃ z, Hd (S z ++ inv) (C z ++ ic) (p z) sl' ch') Q) sl ch)
    (g : ∀ z, p z → KWp E y Q (S z ++ inv) (C z ++ ic)) : KWp E (.seq x y) Q sl ch := by
  refine kwp_seq (kwp_mono h ?_)
  intro e s cc hh
  cases e <;> first | (obtain ⟨z, hz⟩ := hh; exact kwp_weak hz.s hz.c (g z hz.p)) | exact hh
end

/-! ### Contracts -/
theorem triple_start {P : Program} {f : FuncId} {fn : Func} {c : Code} {vs : List Value} {ro rw : List Chunk} {R : Value → List Chunk → Prop} (N : Nat)
    (hf : P.funcs[f]? = some fn) (hN : fn.ntmps = N) (hb : fn.body = some c) (hn : Nat.ble vs.length N = true)
    (h : ∀ w0, KWp ⟨P, N, ro, w0, rw⟩ c (KBody fn P ro R) (argSlots 0 vs) rw) : Triple P f vs ro rw R := by
  subst hN
  exact triple_intro hf hb hn h

section
variable {fn : Func} {P : Program} {ro ch : List Chunk} {R : Value → List Chunk → Prop} {sl : Slots}
/-- One result in a slot. -/
theorem kret1 {t : Nat} {v : Value} (ch' : List Chunk) (hr : fn.results = #[.tmp t]) (hv : kev fn.ntmps sl (.tmp t) = some v) (hR : R v ch') (hs : Sub ch' ch) : KBody fn P ro R .ret sl ch :=
  ⟨v, ch', fun a w hk _ => by
    have := hk.ev hv
    simp only [Act.eval, Array.getD_eq_getD_getElem?] at this
    simp [results, hr, this], hR, hs⟩

theorem kret2 {t u : Nat} {v x : Value} (ch' : List Chunk) (hr : fn.results = #[.tmp t, .tmp u]) (hv : kev fn.ntmps sl (.tmp t) = some v) (hx : kev fn.ntmps sl (.tmp u) = some x) (hR : R (.tuple #[v, x]) ch') (hs : Sub ch' ch) : KBody fn P ro R .ret sl ch :=
  ⟨_, ch', fun a w hk _ => by
    have h1 := hk.ev hv
    have h2 := hk.ev hx
    simp only [Act.eval, Array.getD_eq_getD_getElem?] at h1 h2
    simp [results, hr, h1, h2], hR, hs⟩

theorem kret3 {t u s : Nat} {v x y : Value} (ch' : List Chunk) (hr : fn.results = #[.tmp t, .tmp u, .tmp s]) (hv : kev fn.ntmps sl (.tmp t) = some v) (hx : kev fn.ntmps sl (.tmp u) = some x) (hy : kev fn.ntmps sl (.tmp s) = some y) (hR : R (.tuple #[v, x, y]) ch') (hs : Sub ch' ch) : KBody fn P ro R .ret sl ch :=
  ⟨_, ch', fun a w hk _ => by
    have h1 := hk.ev hv
    have h2 := hk.ev hx
    have h3 := hk.ev hy
    simp only [Act.eval, Array.getD_eq_getD_getElem?] at h1 h2 h3
    simp [results, hr, h1, h2, h3], hR, hs⟩

theorem kret0 (ch' : List Chunk) (hr : fn.results = #[]) (hR : R (.tuple #[]) ch') (hs : Sub ch' ch) : KBody fn P ro R .ret sl ch :=
  ⟨_, ch', fun a w _ _ => by simp [results, hr], hR, hs⟩

theorem kend0 (ch' : List Chunk) (hr : fn.results = #[]) (hR : R (.tuple #[]) ch') (hs : Sub ch' ch) : KBody fn P ro R .normal sl ch :=
  ⟨_, ch', fun a w _ _ => by simp [results, hr], hR, hs⟩

theorem cell_run {t : Nat} {ty : TypeId} {p : Addr} {sz : Nat} {e : List Value} (ht : kev fn.ntmps sl (.tmp t) = some (.pointer (some p))) (hag : ∀ w, (isAgg ty).run P w = .ok true w) (hsz : ∀ w, (sizeOf ty).run P w = .ok sz w)
    (hm : (⟨.pointer (some p), sz, [e]⟩ : Chunk) ∈ ro ++ ch) : ∀ a w, Kn a fn.ntmps sl → St w ro ch → (do loadVar ty (← asAddr (a.tmps.getD t undef)) : Sem Value).run P w = .ok (.agg e.toArray) w := by
  intro a w hk hs
  have h1 := hk.ev ht
  simp only [Act.eval] at h1
  have hok := mem_ok hs hm
  have hl := run_loadCells_list (P := P) w p e (fun j v hj => by
    have := hok.2.2
    simp only [List.flatten_cons, List.flatten_nil, List.append_nil] at this
    exact this.cell hj)
  have hlen : e.length = sz := hok.2.1 e (by simp)
  rw [hlen] at hl
  rw [h1]
  simp [asAddr, loadVar, hag, hsz, hl]

/-- One result, a struct in a variable. -/
theorem kretc {t : Nat} {ty : TypeId} {p : Addr} {sz : Nat} {e : List Value} (ch' : List Chunk) (hr : fn.results = #[.cell t ty]) (ht : kev fn.ntmps sl (.tmp t) = some (.pointer (some p))) (hag : ∀ w, (isAgg ty).run P w = .ok true w) (hsz : ∀ w, (sizeOf ty).run P w = .ok sz w)
    (hm : (⟨.pointer (some p), sz, [e]⟩ : Chunk) ∈ ro ++ ch) (hR : R (.agg e.toArray) ch') (hs : Sub ch' ch) : KBody fn P ro R .ret sl ch :=
  ⟨_, ch', fun a w hk hst => by
    have := cell_run ht hag hsz hm a w hk hst
    simp only [Array.getD_eq_getD_getElem?, Sem.run_bind] at this
    simp [results, hr, this], hR, hs⟩

/-- A struct in a variable and a plain one. -/
theorem kretc1 {t u : Nat} {ty : TypeId} {p : Addr} {sz : Nat} {e : List Value} {x : Value} (ch' : List Chunk) (hr : fn.results = #[.cell t ty, .tmp u]) (ht : kev fn.ntmps sl (.tmp t) = some (.pointer (some p))) (hag : ∀ w, (isAgg ty).run P w = .ok true w) (hsz : ∀ w, (sizeOf ty).run P w = .ok sz w)
    (hm : (⟨.pointer (some p), sz, [e]⟩ : Chunk) ∈ ro ++ ch) (hx : kev fn.ntmps sl (.tmp u) = some x) (hR : R (.tuple #[.agg e.toArray, x]) ch') (hs : Sub ch' ch) : KBody fn P ro R .ret sl ch :=
  ⟨_, ch', fun a w hk hst => by
    have := cell_run ht hag hsz hm a w hk hst
    have h2 := hk.ev hx
    simp only [Act.eval, Array.getD_eq_getD_getElem?] at h2
    simp only [Array.getD_eq_getD_getElem?, Sem.run_bind] at this
    simp only [results, hr]
    simp [h2]
    generalize (asAddr (a.tmps[t]?.getD undef)).run P w = r at this ⊢
    cases r with
    | ok ad w1 =>
      simp only [Result.andThen_ok] at this ⊢
      rw [this]; rfl
    | halt h w1 => simp at this, hR, hs⟩
end

/-! ### Facts that the memory tells -/
theorem slice_len {w : World} {rw : Bool} {a : Option Addr} {n c sz : Nat} {es : List (List Value)} (h : (⟨.slice a n c, sz, es⟩ : Chunk).ok w rw) : n = es.length := by
  obtain ⟨_, _, h2⟩ := h
  cases a with
  | none => obtain ⟨h1, _, h3⟩ := h2; simp only at h1 h3; rw [h3, h1]; rfl
  | some ad => exact h2.1

theorem kwp_len {E : Env} {c : Code} {Q : Exit → KPred} {sl : Slots} {ch : List Chunk} {a : Option Addr} {n cap sz : Nat} {es : List (List Value)} (hm : (⟨.slice a n cap, sz, es⟩ : Chunk) ∈ E.ro ++ ch)
    (h : n = es.length → KWp E c Q sl ch) : KWp E c Q sl ch :=
  fun a w hi => h (slice_len (mem_ok hi.st hm)) a w hi

/-! ### A slice that is filled from its front -/
def fillL {α : Type} (f : α → List Value) (z : List Value) (l : List α) (k : Nat) : List (List Value) := (l.take k).map f ++ List.replicate (l.length - k) z

theorem fill_zero {α : Type} (f : α → List Value) (z : List Value) (l : List α) : List.replicate l.length z = fillL f z l 0 := by simp [fillL]

theorem fill_done {α : Type} (f : α → List Value) (z : List Value) (l : List α) : fillL f z l l.length = l.map f := by simp [fillL]

theorem fill_end {α : Type} {f : α → List Value} {z : List Value} {l : List α} {k : Nat} (h : k = l.length) : fillL f z l k = l.map f := by subst h; exact fill_done f z l

theorem fill_get {α : Type} {f : α → List Value} {z : List Value} {l : List α} {k : Nat} (h : k < l.length) : (fillL f z l k)[k]? = some z := by
  unfold fillL
  rw [List.getElem?_append_right (by simp; omega)]
  have e : k - ((l.take k).map f).length = 0 := by simp; omega
  rw [e, List.getElem?_replicate, if_pos (by omega)]

theorem fill_set {α : Type} {f : α → List Value} {z : List Value} {l : List α} {k : Nat} (h : k < l.length) : (fillL f z l k).set k (f (l[k]'h)) = fillL f z l (k + 1) := by
  apply List.ext_getElem?
  intro i
  unfold fillL
  rw [List.getElem?_set]
  by_cases e : k = i
  · subst e
    rw [if_pos rfl, if_pos (by simp; omega)]
    rw [List.getElem?_append_left (by simp; omega)]
    simp [h]
  · rw [if_neg e]
    by_cases hi : i < k
    · rw [List.getElem?_append_left (by simp; omega), List.getElem?_append_left (by simp; omega)]
      simp [hi, show i < k + 1 by omega]
    · rw [List.getElem?_append_right (by simp; omega), List.getElem?_append_right (by simp; omega)]
      simp only [List.length_map, List.length_take, List.getElem?_replicate]
      by_cases h2 : i < l.length
      · rw [if_pos (by omega), if_pos (by omega)]
      · rw [if_neg (by omega), if_neg (by omega)]

theorem fill_len {α : Type} {f : α → List Value} {z : List Value} {l : List α} {k : Nat} (h : k ≤ l.length) : (fillL f z l k).length = l.length := by
  simp [fillL]; omega

/-! ### Lists that are compared from their front -/
theorem take_succ_eq {α : Type} {l m : List α} {k : Nat} (h : l.take k = m.take k) (h1 : k < l.length) (h2 : k < m.length) (h3 : l[k]'h1 = m[k]'h2) : l.take (k + 1) = m.take (k + 1) := by
  rw [List.take_succ_eq_append_getElem h1, List.take_succ_eq_append_getElem h2, h, h3]

theorem ne_of_get {α : Type} {l m : List α} {k : Nat} (h1 : k < l.length) (h2 : k < m.length) (h3 : l[k]'h1 ≠ m[k]'h2) : l ≠ m := by
  intro e; subst e; exact h3 rfl

theorem eq_of_take {α : Type} {l m : List α} {k : Nat} (h : l.take k = m.take k) (h1 : l.length ≤ k) (h2 : l.length = m.length) : l = m := by
  rw [List.take_of_length_le h1, List.take_of_length_le (by omega)] at h
  exact h

/-! ### Elements -/
theorem get_map {α : Type} {f : α → List Value} {l : List α} {i : Nat} (h : i < l.length) : (l.map f)[i]? = some (f (l[i]'h)) := by
  simp [h]

theorem get_set_ne {l : List (List Value)} {i j : Nat} {x e : List Value} (hne : i ≠ j) (h : l[j]? = some e) : (l.set i x)[j]? = some e := by
  rw [List.getElem?_set_ne hne]; exact h

theorem get_rep {n i : Nat} {z : List Value} (h : i < n) : (List.replicate n z)[i]? = some z := by
  simp [h]

/-- Fields of a struct: where they lie. -/
def FieldAt (P : Program) (s : TypeId) (f off : Nat) : Prop := ∀ (a : Addr) (w : World), (Instr.fieldAt s (.pointer (some a)) f).run P w = .ok (.pointer (some (a.add off))) w

section
variable {P : Program} {N : Nat} {ro : List Chunk} {o : Oper} {sl : Slots} {ch : List Chunk}

theorem opv_fa {s : TypeId} {x : Operand} {f off : Nat} {h : Value} {sz i k : Nat} {es : List (List Value)}
    (ho : o.op = .fieldAddr s x f) (hx : kev N sl x = some (adr h sz i k)) (hfa : FieldAt P s f off) (hm : (⟨h, sz, es⟩ : Chunk) ∈ ro ++ ch) (hi : i < es.length) : OpV P N ro ch o sl (adr h sz i (k + off)) := by
  intro a w hkn hs
  have hok := mem_ok hs hm
  obtain ⟨ad, m, hrow, _, had, _⟩ := hok.row (show 0 < es.length by omega)
  have hev := hkn.ev hx
  simp only at had
  rw [had] at hev
  rw [had]
  unfold execOp
  simp [ho, hev, hfa (ad.add (i * sz + k)) w, add_add hrow.1, Nat.add_assoc]

theorem opv_fab {s : TypeId} {x : Operand} {f off : Nat} {p : Addr} {sz : Nat} {e : List Value}
    (ho : o.op = .fieldAddr s x f) (hx : kev N sl x = some (.pointer (some p))) (hfa : FieldAt P s f off) (hm : (⟨.pointer (some p), sz, [e]⟩ : Chunk) ∈ ro ++ ch) : OpV P N ro ch o sl (adr (.pointer (some p)) sz 0 off) := by
  have h := opv_fa (h := .pointer (some p)) (i := 0) (k := 0) (es := [e]) ho (by rw [adr_box]; exact hx) hfa hm (by simp)
  simpa using h

/-- An element's address, its index a natural number. -/
theorem opv_ia {t e : TypeId} {x ix : Operand} {a : Option Addr} {n c sz : Nat} {k : IntKind} {i : Int} {j : Nat} {es : List (List Value)}
    (ho : o.op = .indexAddr t x ix) (hx : kev N sl x = some (.slice a n c)) (hi : kev N sl ix = some (.int k i))
    (hu : ∀ w, (underlying t).run P w = .ok (.slice e) w) (hsz : ∀ w, (sizeOf e).run P w = .ok sz w)
    (hm : (⟨.slice a n c, sz, es⟩ : Chunk) ∈ ro ++ ch) (hj : i = (j : Int)) (hn : j < es.length) : OpV P N ro ch o sl (adr (.slice a n c) sz j 0) := by
  have h := opv_indexAddr ho hx hi hu hsz hm (by omega) (by omega)
  have : i.toNat = j := by omega
  rw [this] at h
  exact h

theorem opv_build1 {t : TypeId} {ps : Array (Nat × Operand)} {z : Value} {fs : Array Field} {places : Array (Nat × Nat)} (vs : List (Nat × Value)) (out : List Value) (ho : o.op = .build t ps)
    (hx : ps.toList.map (fun p => (p.1, kev N sl p.2)) = vs.map (fun p => (p.1, some p.2))) (hz : ∀ w, (zeroValue t).run P w = .ok z w) (hu : ∀ w, (underlying t).run P w = .ok (.struct fs) w)
    (hpl : ∀ w, (fs.mapM (fun (f : Field) => (do pure (f.offset, ← sizeOf f.type) : Sem (Nat × Nat)))).run P w = .ok places w) (hf : Instr.fill (places[·]?) z.cells vs = some out.toArray) : OpV P N ro ch o sl (.agg out.toArray) :=
  opv_build ho hx hz hu hpl hf

/-- A test of two structs, cell by cell. -/
theorem opk_box' {R : KPred} {t : TypeId} {x : Operand} {v : Value} {e : List Value} (sz : Nat) (ho : o.op = .box t x) (hx : kev N sl x = some v) (he : v.cells.toList = e) (hl : e.length = sz) (hp : 0 < sz)
    (hR : ∀ p : Addr, R (putS o.dst (.pointer (some p)) sl) (⟨.pointer (some p), sz, [e]⟩ :: ch)) : OpK P N ro o sl ch R := by
  subst hl
  exact opk_box ho hx he hp hR

theorem opk_alloc' {R : KPred} {t : TypeId} {z : Value} {e : List Value} (sz : Nat) (ho : o.op = .alloc t) (hz : ∀ w, (zeroValue t).run P w = .ok z w) (he : z.cells.toList = e) (hl : e.length = sz) (hp : 0 < sz)
    (hR : ∀ p : Addr, R (putS o.dst (.pointer (some p)) sl) (⟨.pointer (some p), sz, [e]⟩ :: ch)) : OpK P N ro o sl ch R := by
  subst hl
  exact opk_alloc ho hz he hp hR

theorem opv_neg' {t : TypeId} {x : Operand} {a : Int} (ho : o.op = .unOp .neg t x) (hx : kev N sl x = some (.int .i64 a)) (hr : -9223372036854775807 ≤ a ∧ a ≤ 9223372036854775807) : OpV P N ro ch o sl (.int .i64 (-a)) := by
  have h := opv_neg (P := P) (ro := ro) (ch := ch) ho hx
  rw [wrap_in (by omega) (by omega), Int.zero_sub] at h
  exact h

theorem opv_quo' {t u : TypeId} {x y : Operand} {a b : Int} (ho : o.op = .binOp .quo t x y u) (hx : kev N sl x = some (.int .i64 a)) (hy : kev N sl y = some (.int .i64 b)) (h0 : 0 ≤ a) (h1 : a ≤ 9223372036854775807) (hb : 0 < b) : OpV P N ro ch o sl (.int .i64 (a / b)) := by
  have h := opv_quo (P := P) (ro := ro) (ch := ch) ho hx hy (by omega)
  rw [Int.tdiv_eq_ediv_of_nonneg h0] at h
  have h2 : 0 ≤ a / b := Int.ediv_nonneg h0 (by omega)
  have h3 : a / b ≤ a := Int.ediv_le_self b h0
  rw [wrap_in (by omega) (by omega)] at h
  exact h

theorem opv_rem' {t u : TypeId} {x y : Operand} {a b : Int} (ho : o.op = .binOp .rem t x y u) (hx : kev N sl x = some (.int .i64 a)) (hy : kev N sl y = some (.int .i64 b)) (h0 : 0 ≤ a) (hb : b ≠ 0) : OpV P N ro ch o sl (.int .i64 (a % b)) := by
  have h := opv_rem (P := P) (ro := ro) (ch := ch) ho hx hy hb
  rw [Int.tmod_eq_emod_of_nonneg h0] at h
  exact h
end
end Go.Proofs.YtpfijnklnljccaaDoor
