/- A layer of rules over the walk's weakest preconditions: states are known slots and memory chunks; no condition on the program. -/
import Derived.WalkKit
import Derived.Deep.Quiet
import Derived.OrdersHeld
namespace Go.Proofs.YtpfijnklnljccaaDoor
open Go

theorem add_mk (b o n : Nat) : (⟨b, o, none⟩ : Addr).add n = ⟨b, o + n, none⟩ := by
  unfold Addr.add; split <;> simp_all

/-- A row of elements behind a slice's header or a pointer: `sz` cells an element. -/
structure Chunk where
  h : Value
  sz : Nat
  es : List (List Value)

def blkOf : Value → Option Nat
  | .pointer (some a) => some a.block
  | .slice (some a) _ cap => if cap = 0 then none else some a.block
  | .iface g _ => some g
  | _ => none

def Chunk.blk (c : Chunk) : Option Nat := blkOf c.h

/-- The address of cell `k` of element `i`. -/
def adr (h : Value) (sz i k : Nat) : Value :=
  match h with
  | .pointer (some a) => .pointer (some (a.add (i * sz + k)))
  | .slice (some a) _ _ => .pointer (some (a.add (i * sz + k)))
  | _ => undef

def RowOk (w : World) (rw : Bool) (a : Addr) (cs : List Value) (m : Nat) : Prop :=
  a.spot = none ∧ ∃ arr el fz, w.heap[a.block]? = some (.cells arr el fz) ∧ (rw = true → fz = (0, 0)) ∧
    a.off + m ≤ arr.size ∧ cs.length ≤ m ∧ ∀ j v, cs[j]? = some v → arr[a.off + j]? = some v

def Chunk.ok (w : World) (rw : Bool) (c : Chunk) : Prop :=
  0 < c.sz ∧ (∀ e ∈ c.es, e.length = c.sz) ∧
  match c.h with
  | .pointer (some a) => RowOk w rw a c.es.flatten (c.es.length * c.sz)
  | .slice (some a) n cap => n = c.es.length ∧ n ≤ cap ∧ (0 < cap → RowOk w rw a c.es.flatten (cap * c.sz))
  | .slice none n cap => n = 0 ∧ cap = 0 ∧ c.es = []
  | .iface g v => c.es = [] ∧ ∃ vals el fz, v = .agg vals ∧ w.heap[g]? = some (.cells vals el fz)      -- a whole variable
  | _ => False

def sep (c d : Chunk) : Prop := ∀ b, c.blk = some b → d.blk ≠ some b

theorem sep.symm {c d : Chunk} (h : sep c d) : sep d c := fun b hd hc => h b hc hd

structure St (w : World) (ro ch : List Chunk) : Prop where
  rok : ∀ c ∈ ro, c.ok w false
  wok : ∀ c ∈ ch, c.ok w true
  pw : ch.Pairwise sep
  rs : ∀ c ∈ ro, ∀ d ∈ ch, sep c d

structure Ext (w : World) (ch : List Chunk) (w' : World) (ch' : List Chunk) : Prop where
  size : w.heap.size ≤ w'.heap.size
  keep : ∀ b, b < w.heap.size → (∀ c ∈ ch, c.blk ≠ some b) → w'.heap[b]? = w.heap[b]?
  from_ : ∀ c ∈ ch', ∀ b, c.blk = some b → b < w.heap.size → ∃ e ∈ ch, e.blk = some b
  env : w'.os = w.os ∧ w'.tape = w.tape ∧ w'.output = w.output

theorem RowOk.lt {w : World} {rw : Bool} {a : Addr} {cs : List Value} {m : Nat} (h : RowOk w rw a cs m) : a.block < w.heap.size := by
  obtain ⟨_, arr, el, fz, hh, _⟩ := h
  exact (Array.getElem?_eq_some_iff.1 hh).1

theorem RowOk.weak {w : World} {rw : Bool} {a : Addr} {cs : List Value} {m : Nat} (h : RowOk w rw a cs m) : RowOk w false a cs m := by
  obtain ⟨hs, arr, el, fz, hh, _, r⟩ := h
  exact ⟨hs, arr, el, fz, hh, (by simp), r⟩

theorem RowOk.same {w w' : World} {rw : Bool} {a : Addr} {cs : List Value} {m : Nat} (h : RowOk w rw a cs m) (e : w'.heap[a.block]? = w.heap[a.block]?) : RowOk w' rw a cs m := by
  obtain ⟨hs, arr, el, fz, hh, r⟩ := h
  exact ⟨hs, arr, el, fz, e.trans hh, r⟩

theorem Chunk.ok.lt {w : World} {rw : Bool} {c : Chunk} (h : c.ok w rw) : ∀ b, c.blk = some b → b < w.heap.size := by
  intro b hb
  obtain ⟨_, _, h⟩ := h
  unfold Chunk.blk blkOf at hb
  split at hb
  · rename_i a e; rw [e] at h; cases hb; exact h.lt
  · rename_i a n cap e
    rw [e] at h
    split at hb
    · cases hb
    · cases hb; exact (h.2.2 (by omega)).lt
  · rename_i g v e
    rw [e] at h; cases hb
    obtain ⟨_, _, _, _, _, hh⟩ := h
    exact (Array.getElem?_eq_some_iff.1 hh).1
  · cases hb

theorem Chunk.ok.weak {w : World} {rw : Bool} {c : Chunk} (h : c.ok w rw) : c.ok w false := by
  obtain ⟨h0, h1, h2⟩ := h
  refine ⟨h0, h1, ?_⟩
  split at h2
  · exact h2.weak
  · exact ⟨h2.1, h2.2.1, fun hc => (h2.2.2 hc).weak⟩
  · exact h2
  · exact h2
  · exact h2

theorem Chunk.ok.same {w w' : World} {rw : Bool} {c : Chunk} (h : c.ok w rw) (e : ∀ b, c.blk = some b → w'.heap[b]? = w.heap[b]?) : c.ok w' rw := by
  obtain ⟨h0, h1, h2⟩ := h
  refine ⟨h0, h1, ?_⟩
  unfold Chunk.blk at e
  split at h2
  · rename_i a eh; rw [eh] at e; exact h2.same (e _ rfl)
  · rename_i a n cap eh; rw [eh] at e; exact ⟨h2.1, h2.2.1, fun hc => (h2.2.2 hc).same (e _ (by simp only [blkOf]; rw [if_neg (by omega)]))⟩
  · exact h2
  · rename_i g v eh
    rw [eh] at e
    obtain ⟨h3, vals, el, fz, h4, h5⟩ := h2
    exact ⟨h3, vals, el, fz, h4, (e _ rfl).trans h5⟩
  · exact h2

theorem Ext.refl (w : World) (ch : List Chunk) : Ext w ch w ch := ⟨Nat.le_refl _, fun _ _ _ => rfl, fun c hc _ hb _ => ⟨c, hc, hb⟩, rfl, rfl, rfl⟩

theorem Ext.trans {w w1 w2 : World} {c0 c1 c2 : List Chunk} (h : Ext w c0 w1 c1) (g : Ext w1 c1 w2 c2) : Ext w c0 w2 c2 where
  size := Nat.le_trans h.size g.size
  keep b hb hn := by
    rw [g.keep b (Nat.lt_of_lt_of_le hb h.size) (fun c hc e => by
      obtain ⟨d, hd, hdb⟩ := h.from_ c hc b e hb
      exact hn d hd hdb)]
    exact h.keep b hb hn
  from_ c hc b e hb := by
    obtain ⟨d, hd, hdb⟩ := g.from_ c hc b e (Nat.lt_of_lt_of_le hb h.size)
    exact h.from_ d hd b hdb hb
  env := ⟨g.env.1.trans h.env.1, g.env.2.1.trans h.env.2.1, g.env.2.2.trans h.env.2.2⟩

/-- Fewer chunks, in another order. -/
def Sub (c2 c1 : List Chunk) : Prop := ∃ rest, c1.Perm (c2 ++ rest)

theorem Sub.mem {c2 c1 : List Chunk} (h : Sub c2 c1) : ∀ c ∈ c2, c ∈ c1 := by
  obtain ⟨r, hp⟩ := h
  exact fun c hc => hp.symm.subset (List.mem_append_left _ hc)

theorem Sub.refl (c : List Chunk) : Sub c c := ⟨[], by simp⟩

theorem Sub.trans {a b c : List Chunk} (h : Sub a b) (g : Sub b c) : Sub a c := by
  obtain ⟨r, hp⟩ := h
  obtain ⟨s, hq⟩ := g
  exact ⟨r ++ s, hq.trans (by rw [← List.append_assoc]; exact hp.append_right s)⟩

theorem pairwise_perm {c1 c2 : List Chunk} (hp : c1.Perm c2) (h : c1.Pairwise sep) : c2.Pairwise sep :=
  (hp.pairwise_iff (fun hh => sep.symm hh)).1 h

theorem St.sub {w : World} {ro c1 c2 : List Chunk} (h : St w ro c1) (s : Sub c2 c1) : St w ro c2 where
  rok := h.rok
  wok c hc := h.wok c (s.mem c hc)
  pw := by
    obtain ⟨r, hp⟩ := s
    exact (List.pairwise_append.1 (pairwise_perm hp h.pw)).1
  rs c hc d hd := h.rs c hc d (s.mem d hd)

theorem Ext.sub {w w' : World} {c0 c1 c2 : List Chunk} (h : Ext w c0 w' c1) (s : Sub c2 c1) : Ext w c0 w' c2 :=
  ⟨h.size, h.keep, fun c hc => h.from_ c (s.mem c hc), h.env⟩

abbrev Slots := List (Nat × Value)

def get : Slots → Nat → Option Value
  | [], _ => none
  | (t, v) :: r, u => match Nat.beq t u with
    | true => some v
    | false => get r u

def putS (dst : Option Nat) (v : Value) (sl : Slots) : Slots :=
  match dst with
  | some d => (d, v) :: sl
  | none => sl

structure Kn (a : Act) (N : Nat) (sl : Slots) : Prop where
  defers : a.defers = []
  size : a.tmps.size = N
  val : ∀ t v, t < N → get sl t = some v → a.tmps.getD t undef = v

theorem Kn.put {a : Act} {N : Nat} {sl : Slots} (h : Kn a N sl) (dst : Option Nat) (v : Value) : Kn (a.put dst v) N (putS dst v sl) := by
  cases dst with
  | none => exact h
  | some d =>
    refine ⟨h.defers, by simp [Act.put, h.size], fun t u ht hg => ?_⟩
    simp only [putS, get] at hg
    by_cases e : d = t
    · subst e
      rw [Nat.beq_refl] at hg
      cases hg
      simp [Act.put, Array.getD, h.size, ht]
    · have : Nat.beq d t = false := by
        cases hb : Nat.beq d t
        · rfl
        · exact absurd (Nat.eq_of_beq_eq_true hb) e
      rw [this] at hg
      have := h.val t u ht hg
      simp only [Act.put]
      rw [← this]
      simp [Array.getElem?_setIfInBounds_ne e]

def Knows (s2 s1 : Slots) : Prop := ∀ t v, get s2 t = some v → get s1 t = some v

theorem Knows.refl (s : Slots) : Knows s s := fun _ _ h => h

theorem Knows.nil (s : Slots) : Knows [] s := fun _ _ h => by cases h

theorem Knows.cons {s2 s1 : Slots} {t : Nat} {v : Value} (h : get s1 t = some v) (g : Knows s2 s1) : Knows ((t, v) :: s2) s1 := by
  intro u x hu
  simp only [get] at hu
  split at hu
  · rename_i e
    cases hu
    rw [← Nat.eq_of_beq_eq_true e]
    exact h
  · exact g u x hu

theorem Kn.weak {a : Act} {N : Nat} {s1 s2 : Slots} (h : Kn a N s1) (g : Knows s2 s1) : Kn a N s2 :=
  ⟨h.defers, h.size, fun t v ht hv => h.val t v ht (g t v hv)⟩

structure Env where
  P : Program
  N : Nat
  ro : List Chunk
  w0 : World
  ch0 : List Chunk

structure In (E : Env) (sl : Slots) (ch : List Chunk) (a : Act) (w : World) : Prop where
  kn : Kn a E.N sl
  st : St w E.ro ch
  ext : Ext E.w0 E.ch0 w ch

abbrev KPred := Slots → List Chunk → Prop

def post (E : Env) (Q : Exit → KPred) : Exit → Act → World → Prop := fun e a w => ∃ sl ch, Q e sl ch ∧ In E sl ch a w

def KWp (E : Env) (c : Code) (Q : Exit → KPred) (sl : Slots) (ch : List Chunk) : Prop :=
  ∀ a w, In E sl ch a w → c.wp E.P (post E Q) a w

def KThen (n : KPred) (Q : Exit → KPred) : Exit → KPred
  | .normal => n
  | e => Q e

def KBlock (id : Nat) (Q : Exit → KPred) : Exit → KPred
  | .exit id' => if id' = id then Q .normal else Q (.exit id')
  | e => Q e

theorem In.weak {E : Env} {s1 s2 : Slots} {c1 c2 : List Chunk} {a : Act} {w : World} (h : In E s1 c1 a w) (g : Knows s2 s1) (s : Sub c2 c1) : In E s2 c2 a w :=
  ⟨h.kn.weak g, h.st.sub s, h.ext.sub s⟩

theorem kwp_weak {E : Env} {c : Code} {Q : Exit → KPred} {s1 s2 : Slots} {c1 c2 : List Chunk} (g : Knows s2 s1) (s : Sub c2 c1)
    (h : KWp E c Q s2 c2) : KWp E c Q s1 c1 := fun a w hi => h a w (hi.weak g s)

theorem kwp_mono {E : Env} {c : Code} {Q Q' : Exit → KPred} {sl : Slots} {ch : List Chunk} (h : KWp E c Q sl ch)
    (hq : ∀ e s c, Q e s c → Q' e s c) : KWp E c Q' sl ch :=
  fun a w hi => Code.wp_mono (fun _ _ _ ⟨s, c, q, i⟩ => ⟨s, c, hq _ _ _ q, i⟩) (h a w hi)

theorem kwp_skip {E : Env} {Q : Exit → KPred} {sl : Slots} {ch : List Chunk} (h : Q .normal sl ch) : KWp E .skip Q sl ch :=
  fun _ _ hi => wp_skip ⟨sl, ch, h, hi⟩

theorem kwp_ret {E : Env} {Q : Exit → KPred} {sl : Slots} {ch : List Chunk} (h : Q .ret sl ch) : KWp E .ret Q sl ch :=
  fun _ _ hi => wp_ret ⟨sl, ch, h, hi⟩

theorem kwp_exit {E : Env} {id : Nat} {Q : Exit → KPred} {sl : Slots} {ch : List Chunk} (h : Q (.exit id) sl ch) : KWp E (.exit id) Q sl ch :=
  fun _ _ hi => wp_exit ⟨sl, ch, h, hi⟩

theorem kwp_seq {E : Env} {x y : Code} {Q : Exit → KPred} {sl : Slots} {ch : List Chunk} (h : KWp E x (KThen (KWp E y Q) Q) sl ch) :
    KWp E (.seq x y) Q sl ch := by
  intro a w hi
  refine wp_seq (Code.wp_mono ?_ (h a w hi))
  rintro e a' w' ⟨s, c, q, i⟩
  cases e <;> first | exact q _ _ i | exact ⟨s, c, q, i⟩

theorem kwp_block {E : Env} {id : Nat} {c : Code} {Q : Exit → KPred} {sl : Slots} {ch : List Chunk} (h : KWp E c (KBlock id Q) sl ch) :
    KWp E (.block id c) Q sl ch := by
  intro a w hi
  refine wp_block (Code.wp_mono ?_ (h a w hi))
  rintro e a' w' ⟨s, c, q, i⟩
  cases e <;> try exact ⟨s, c, q, i⟩
  rename_i id'
  simp only [Exit.inBlock, KBlock] at q ⊢
  split
  · rename_i e; rw [if_pos e] at q; exact ⟨s, c, q, i⟩
  · rename_i e; rw [if_neg e] at q; exact ⟨s, c, q, i⟩

def kev (N : Nat) (sl : Slots) : Operand → Option Value
  | .tmp t => match Nat.blt t N with
    | true => get sl t
    | false => none
  | .const v => some v
  | .func f => some (.func (.func f) #[] #[])
  | .global _ => none

theorem Kn.ev {a : Act} {N : Nat} {sl : Slots} (h : Kn a N sl) {x : Operand} {v : Value} (hx : kev N sl x = some v) : a.eval x = v := by
  cases x with
  | tmp t =>
    simp only [kev] at hx
    split at hx
    · rename_i e
      have ht : t < N := by simpa [Nat.blt_eq] using e
      exact h.val t v ht hx
    · cases hx
  | const u => simp only [kev, Option.some.injEq] at hx; exact hx
  | func f => simp only [kev, Option.some.injEq] at hx; exact hx
  | global g => simp [kev] at hx

theorem kwp_cond {E : Env} {c : Operand} {x y : Code} {b : Bool} {Q : Exit → KPred} {sl : Slots} {ch : List Chunk}
    (hc : kev E.N sl c = some (.bool b)) (ht : b = true → KWp E x Q sl ch) (hf : b = false → KWp E y Q sl ch) : KWp E (.cond c x y) Q sl ch :=
  fun a w hi => wp_cond_split (hi.kn.ev hc) (fun e => ht e a w hi) (fun e => hf e a w hi)

/-- A loop, its relation with a number that falls. -/
theorem wp_loopN {P : Program} {c : Code} {Q : Exit → Act → World → Prop} (I : Nat → Act → World → Prop) {n : Nat} {a : Act} {w : World} (h0 : I n a w)
    (round : ∀ n a w, I n a w → c.wp P (Exit.then (fun a' w' => ∃ m, m < n ∧ I m a' w') Q) a w) : (Code.loop c).wp P Q a w := by
  intro b k cs
  have key : ∀ n a w, I n a w →
      ∃ e a' w', Q e a' w' ∧ Arrives P (lone (b.at a (.code c :: .inLoop c :: k)) cs w) b k cs e a' w' := by
    intro n
    induction n using Nat.strongRecOn with
    | _ n ih =>
      intro a w h
      obtain ⟨e, a₁, w₁, hq, harr⟩ := round n a w h b (.inLoop c :: k) cs
      cases e with
      | normal =>
        obtain ⟨m, hm, hq⟩ := hq
        obtain ⟨e₂, a₂, w₂, hq₂, harr₂⟩ := ih m hm a₁ w₁ hq
        exact ⟨e₂, a₂, w₂, hq₂, .of_steps (Steps.trans harr (.one step_inLoop)) harr₂⟩
      | exit id => exact ⟨_, a₁, w₁, hq, .pass (x := .inLoop c) rfl (fun _ _ => .inl (by simp)) harr⟩
      | goto l => exact ⟨_, a₁, w₁, hq, .pass (x := .inLoop c) rfl (fun _ _ => .inl (by simp)) harr⟩
      | ret => exact ⟨_, a₁, w₁, hq, .pass (x := .inLoop c) rfl (fun _ _ => .inl (by simp)) harr⟩
      | panic ch => exact ⟨_, a₁, w₁, hq, .pass (x := .inLoop c) rfl (fun _ _ => .inl (by simp)) harr⟩
      | outgrown => exact ⟨_, a₁, w₁, hq, .pass (x := .inLoop c) rfl (fun _ _ => .inl (by simp)) harr⟩
  obtain ⟨e, a', w', hq, harr⟩ := key n a w h0
  exact ⟨e, a', w', hq, .of_steps (.one step_loop) harr⟩

def KOps (E : Env) (ops : Array Oper) (Q : Exit → KPred) (l : List Oper) (sl : Slots) (ch : List Chunk) : Prop :=
  ∀ a w, In E sl ch a w → wpList E.P ops (post E Q) l a w

theorem kwp_region {E : Env} {id : Nat} {l : List Oper} {Q : Exit → KPred} {sl : Slots} {ch : List Chunk} (h : KOps E l.toArray Q l sl ch) :
    KWp E (.region id l.toArray false) Q sl ch := fun a w hi => wp_region_lit (h a w hi)

theorem kops_nil {E : Env} {ops : Array Oper} {Q : Exit → KPred} {sl : Slots} {ch : List Chunk} (h : Q .normal sl ch) : KOps E ops Q [] sl ch :=
  fun _ _ hi => ⟨sl, ch, h, hi⟩

/-- What one operation does, in whatever frame and world that fits. -/
def OpK (P : Program) (N : Nat) (ro : List Chunk) (o : Oper) (sl : Slots) (ch : List Chunk) (R : KPred) : Prop :=
  ∀ a w, Kn a N sl → St w ro ch → ∀ (K : Act → World → Prop) (Q : Exit → Act → World → Prop),
    (∀ a' w' sl' ch', R sl' ch' → Kn a' N sl' → St w' ro ch' → Ext w ch w' ch' → K a' w') → o.wp P a w K Q

theorem kops_step {E : Env} {ops : Array Oper} {Q : Exit → KPred} {o : Oper} {l : List Oper} {sl : Slots} {ch : List Chunk} (hg : o.guard = none)
    (h : OpK E.P E.N E.ro o sl ch (KOps E ops Q l)) : KOps E ops Q (o :: l) sl ch := by
  intro a w hi
  unfold wpList
  rw [if_pos (by simp [Region.wanted, hg])]
  exact .inl (h a w hi.kn hi.st _ _ fun a' w' sl' ch' hR hk hs he => hR a' w' ⟨hk, hs, hi.ext.trans he⟩)

theorem kops_guard {E : Env} {ops : Array Oper} {Q : Exit → KPred} {o : Oper} {l : List Oper} {sl : Slots} {ch : List Chunk} {j d : Nat} {want b : Bool}
    (hg : o.guard = some (j, want)) (hj : (ops[j]?).bind (·.dst) = some d) (hb : kev E.N sl (.tmp d) = some (.bool b))
    (hy : b = want → OpK E.P E.N E.ro o sl ch (KOps E ops Q l)) (hn : b = !want → KOps E ops Q l (putS o.dst undef sl) ch) : KOps E ops Q (o :: l) sl ch := by
  intro a w hi
  have hv := hi.kn.ev hb
  have hlt : d < a.tmps.size := by
    rw [hi.kn.size]
    simp only [kev] at hb
    split at hb
    · rename_i e; simpa [Nat.blt_eq] using e
    · cases hb
  have hyl : yielded ops a.tmps j = some b := by
    simp only [yielded, hj, Option.bind_some]
    have : a.tmps[d]? = some (.bool b) := by
      simp only [Act.eval] at hv
      rw [Array.getElem?_eq_getElem hlt]
      simpa [Array.getD, hlt] using hv
    rw [this]
  unfold wpList
  by_cases e : b = want
  · rw [if_pos (by simp [Region.wanted, hg, hyl, e])]
    exact .inl (hy e a w hi.kn hi.st _ _ fun a' w' sl' ch' hR hk hs he => hR a' w' ⟨hk, hs, hi.ext.trans he⟩)
  · rw [if_neg (by simp [Region.wanted, hg, hyl, e])]
    exact hn (by cases b <;> cases want <;> simp_all) _ w ⟨hi.kn.put _ _, hi.st, hi.ext⟩

/-- An operation that yields a value and leaves the world alone. -/
theorem opk_pure {P : Program} {N : Nat} {ro : List Chunk} {o : Oper} {sl : Slots} {ch : List Chunk} {R : KPred} {v : Value}
    (hr : ∀ a w, Kn a N sl → St w ro ch → (execOp a.eval o).run P w = .ok (.value v) w) (h : R (putS o.dst v sl) ch) : OpK P N ro o sl ch R := by
  intro a w hk hs K Q hK
  unfold Oper.wp
  rw [hr a w hk hs]
  exact hK _ _ _ _ h (hk.put _ _) hs (Ext.refl _ _)

def Triple (P : Program) (f : FuncId) (args : List Value) (ro rw : List Chunk) (R : Value → List Chunk → Prop) : Prop :=
  ∀ w, St w ro rw → Calls P f args.toArray w fun e w' => ∃ r ch', e = .returned r ∧ R r ch' ∧ St w' ro ch' ∧ Ext w rw w' ch'

theorem Triple.mono {P : Program} {f : FuncId} {args : List Value} {ro rw : List Chunk} {R R' : Value → List Chunk → Prop} (h : Triple P f args ro rw R)
    (hr : ∀ r c, R r c → R' r c) : Triple P f args ro rw R' :=
  fun w hs => (h w hs).mono fun _ _ ⟨r, c, he, hR, x⟩ => ⟨r, c, he, hr _ _ hR, x⟩

/-- `c` may be read where `c0` may be read. -/
def View (c0 c : Chunk) : Prop := ∀ w, c0.ok w false → c.ok w false ∧ ∀ b, c.blk = some b → c0.blk = some b

theorem View.refl (c : Chunk) : View c c := fun _ h => ⟨h, fun _ h => h⟩

/-- Every chunk that a callee reads lies among the caller's. -/
def Views (l roC : List Chunk) : Prop := ∀ c ∈ roC, ∃ c0 ∈ l, View c0 c

theorem Views.nil (l : List Chunk) : Views l [] := fun _ h => by cases h

theorem Views.cons {l roC : List Chunk} {c0 c : Chunk} (h : c0 ∈ l) (v : View c0 c) (g : Views l roC) : Views l (c :: roC) := by
  intro d hd
  cases hd with
  | head => exact ⟨c0, h, v⟩
  | tail _ hd => exact g d hd

theorem St.view {w : World} {ro ch roC rwC rest : List Chunk} (h : St w ro ch) (hp : ch.Perm (rwC ++ rest)) (hv : Views (ro ++ rest) roC) : St w roC rwC where
  rok c hc := by
    obtain ⟨c0, h0, v⟩ := hv c hc
    refine (v w ?_).1
    rcases List.mem_append.1 h0 with h1 | h1
    · exact h.rok c0 h1
    · exact (h.wok c0 (hp.symm.subset (List.mem_append_right _ h1))).weak
  wok c hc := h.wok c (hp.symm.subset (List.mem_append_left _ hc))
  pw := (List.pairwise_append.1 (pairwise_perm hp h.pw)).1
  rs c hc d hd b hb := by
    obtain ⟨c0, h0, v⟩ := hv c hc
    rcases List.mem_append.1 h0 with h1 | h1
    · exact h.rs c0 h1 d (hp.symm.subset (List.mem_append_left _ hd)) b ((v w (h.rok c0 h1)).2 b hb)
    · have hs := (List.pairwise_append.1 (pairwise_perm hp h.pw)).2.2 d hd c0 h1
      exact (hs.symm) b ((v w (h.wok c0 (hp.symm.subset (List.mem_append_right _ h1))).weak).2 b hb)

theorem St.frame {w w' : World} {ro ch roC rwC rest ch' : List Chunk} (h : St w ro ch) (hp : ch.Perm (rwC ++ rest))
    (h' : St w' roC ch') (he : Ext w rwC w' ch') : St w' ro (ch' ++ rest) ∧ Ext w ch w' (ch' ++ rest) := by
  have hpw := List.pairwise_append.1 (pairwise_perm hp h.pw)
  have hrest : ∀ d ∈ rest, d ∈ ch := fun d hd => hp.symm.subset (List.mem_append_right _ hd)
  have hrw : ∀ d ∈ rwC, d ∈ ch := fun d hd => hp.symm.subset (List.mem_append_left _ hd)
  have keepR : ∀ d ∈ rest, ∀ b, d.blk = some b → w'.heap[b]? = w.heap[b]? := fun d hd b hb =>
    he.keep b ((h.wok d (hrest d hd)).lt b hb) (fun c hc e => hpw.2.2 c hc d hd b e hb)
  have keepRo : ∀ d ∈ ro, ∀ b, d.blk = some b → w'.heap[b]? = w.heap[b]? := fun d hd b hb =>
    he.keep b ((h.rok d hd).lt b hb) (fun c hc e => h.rs d hd c (hrw c hc) b hb e)
  refine ⟨⟨?_, ?_, ?_, ?_⟩, ⟨he.size, ?_, ?_, he.env⟩⟩
  · exact fun c hc => (h.rok c hc).same (keepRo c hc)
  · intro c hc
    rcases List.mem_append.1 hc with h1 | h1
    · exact h'.wok c h1
    · exact (h.wok c (hrest c h1)).same (keepR c h1)
  · refine List.pairwise_append.2 ⟨h'.pw, hpw.2.1, fun c hc d hd b hb hdb => ?_⟩
    obtain ⟨e, hee, heb⟩ := he.from_ c hc b hb ((h.wok d (hrest d hd)).lt b hdb)
    exact hpw.2.2 e hee d hd b heb hdb
  · intro c hc d hd b hb hdb
    rcases List.mem_append.1 hd with h1 | h1
    · obtain ⟨e, hee, heb⟩ := he.from_ d h1 b hdb ((h.rok c hc).lt b hb)
      exact h.rs c hc e (hrw e hee) b hb heb
    · exact h.rs c hc d (hrest d h1) b hb hdb
  · exact fun b hb hn => he.keep b hb (fun c hc => hn c (hrw c hc))
  · intro c hc b hb hlt
    rcases List.mem_append.1 hc with h1 | h1
    · obtain ⟨e, hee, heb⟩ := he.from_ c h1 b hb hlt
      exact ⟨e, hrw e hee, heb⟩
    · exact ⟨c, hrest c h1, hb⟩

/-- A call by its contract. -/
theorem opk_call {P : Program} {N : Nat} {ro : List Chunk} {o : Oper} {sl : Slots} {ch : List Chunk} {R : KPred} {f : FuncId} {xs : Array Operand} {ts : Array TypeId} {vs : List Value}
    {roC rwC rest : List Chunk} {G : Value → List Chunk → Prop}
    (ho : o.op = .call { callee := .value (.func f), args := xs, argTypes := ts })
    (hcall : ∀ (args : Array Value) (w : World), (callFunc f args).run P w = .ok (.enter f args) w)
    (hx : xs.toList.map (kev N sl) = vs.map some)
    (ht : Triple P f vs roC rwC G) (hp : ch.Perm (rwC ++ rest)) (hv : Views (ro ++ rest) roC)
    (h : ∀ r c', G r c' → R (putS o.dst r sl) (c' ++ rest)) : OpK P N ro o sl ch R := by
  intro a w hk hs K Q hK
  have hargs : xs.map a.eval = vs.toArray := by
    apply Array.toList_inj.1
    rw [Array.toList_map]
    have : ∀ (l : List Operand) (vs : List Value), l.map (kev N sl) = vs.map some → l.map a.eval = vs := by
      intro l
      induction l with
      | nil => intro vs h; cases vs <;> simp_all
      | cons x l ih =>
        intro vs h
        cases vs with
        | nil => simp at h
        | cons v vs =>
          simp only [List.map_cons, List.cons.injEq] at h ⊢
          exact ⟨hk.ev h.1, ih vs h.2⟩
    exact this _ _ hx
  have hf : a.eval (.func f) = .func (.func f) #[] #[] := rfl
  have hrun : (execOp a.eval o).run P w = .ok (.enter f vs.toArray) w := by
    unfold execOp
    simp only [ho, resolve, Sem.run_bind, hargs]
    simp [hf, Deferred.ofValue, invoke, hcall]
  unfold Oper.wp
  rw [hrun, Oper.upon_enter]
  refine (ht w (hs.view hp hv)).mono ?_
  rintro e w' ⟨r, c', rfl, hG, hs', he'⟩
  obtain ⟨s1, e1⟩ := hs.frame hp hs' he'
  exact hK _ _ _ _ (h r c' hG) (hk.put _ _) s1 e1

def KBody (fn : Func) (P : Program) (ro : List Chunk) (R : Value → List Chunk → Prop) : Exit → KPred
  | .normal, sl, ch | .ret, sl, ch => ∃ r ch', (∀ a w, Kn a fn.ntmps sl → St w ro ch → (results fn a.tmps).run P w = .ok r w) ∧ R r ch' ∧ Sub ch' ch
  | _, _, _ => False

def argSlots : Nat → List Value → Slots
  | _, [] => []
  | k, v :: vs => (k, v) :: argSlots (k + 1) vs

theorem get_argSlots : ∀ (vs : List Value) (k t : Nat) (v : Value), get (argSlots k vs) t = some v → k ≤ t ∧ vs[t - k]? = some v
  | [], _, _, _, h => by cases h
  | u :: vs, k, t, v, h => by
    simp only [argSlots, get] at h
    split at h
    · rename_i e
      have := Nat.eq_of_beq_eq_true e
      subst this
      cases h
      simp
    · rename_i e
      obtain ⟨h1, h2⟩ := get_argSlots vs (k + 1) t v h
      refine ⟨by omega, ?_⟩
      have : t - k = (t - (k + 1)) + 1 := by omega
      rw [this]
      simpa using h2

theorem triple_intro {P : Program} {f : FuncId} {fn : Func} {c : Code} {vs : List Value} {ro rw : List Chunk} {R : Value → List Chunk → Prop}
    (hf : P.funcs[f]? = some fn) (hb : fn.body = some c) (hn : Nat.ble vs.length fn.ntmps = true)
    (h : ∀ w0, KWp ⟨P, fn.ntmps, ro, w0, rw⟩ c (KBody fn P ro R) (argSlots 0 vs) rw) : Triple P f vs ro rw R := by
  intro w hs
  have hle : vs.length ≤ fn.ntmps := Nat.le_of_ble_eq_true hn
  refine calls_of_wp hf hb (Code.wp_mono ?_ (h w { tmps := vs.toArray ++ Array.replicate (fn.ntmps - vs.toArray.size) undef, defers := [] } w ⟨⟨rfl, ?_, ?_⟩, hs, Ext.refl _ _⟩))
  · rintro e a' w' ⟨sl, ch, q, i⟩
    cases e <;> first
      | exact q.elim
      | (obtain ⟨r, ch', hr, hR, hsub⟩ := q
         exact ⟨i.kn.defers, r, hr a' w' i.kn i.st, r, ch', rfl, hR, i.st.sub hsub, i.ext.sub hsub⟩)
  · simp; omega
  · intro t v ht hg
    obtain ⟨_, h2⟩ := get_argSlots vs 0 t v hg
    simp only [Nat.sub_zero] at h2
    obtain ⟨hlt, he⟩ := List.getElem?_eq_some_iff.1 h2
    simp [Array.getD, hlt, he]
    omega

end Go.Proofs.YtpfijnklnljccaaDoor

namespace Go.Proofs.YtpfijnklnljccaaDoor
open Go

theorem flat_get {sz : Nat} : ∀ {es : List (List Value)} (_ : ∀ e ∈ es, e.length = sz) {i k : Nat} {e : List Value} {v : Value}, es[i]? = some e → e[k]? = some v → es.flatten[i * sz + k]? = some v
  | [], _, i, k, e, v, hi, _ => by simp at hi
  | x :: es, hl, 0, k, e, v, hi, hk => by
    simp only [List.getElem?_cons_zero, Option.some.injEq] at hi
    subst hi
    have hlt : k < x.length := (List.getElem?_eq_some_iff.1 hk).1
    simp only [List.flatten_cons, Nat.zero_mul, Nat.zero_add]
    rw [List.getElem?_append_left hlt]
    exact hk
  | x :: es, hl, i + 1, k, e, v, hi, hk => by
    have hx : x.length = sz := hl x (by simp)
    simp only [List.getElem?_cons_succ] at hi
    have ih := flat_get (fun y hy => hl y (by simp [hy])) hi hk
    simp only [List.flatten_cons]
    rw [List.getElem?_append_right (by rw [hx, Nat.add_mul]; omega), hx]
    have : (i + 1) * sz + k - sz = i * sz + k := by rw [Nat.add_mul]; omega
    rw [this]
    exact ih

theorem flat_length {sz : Nat} : ∀ {es : List (List Value)} (_ : ∀ e ∈ es, e.length = sz), es.flatten.length = es.length * sz
  | [], _ => by simp
  | x :: es, hl => by
    simp only [List.flatten_cons, List.length_append, List.length_cons]
    rw [hl x (by simp), flat_length (fun y hy => hl y (by simp [hy])), Nat.add_mul]
    omega

theorem flat_set {sz : Nat} : ∀ {es : List (List Value)} (_ : ∀ e ∈ es, e.length = sz) {i k : Nat} {e : List Value} {v : Value}, es[i]? = some e → k < sz → (es.set i (e.set k v)).flatten = es.flatten.set (i * sz + k) v
  | [], _, i, k, e, v, hi, _ => by simp at hi
  | x :: es, hl, 0, k, e, v, hi, hk => by
    simp only [List.getElem?_cons_zero, Option.some.injEq] at hi
    subst hi
    have hx : x.length = sz := hl x (by simp)
    simp only [List.set_cons_zero, List.flatten_cons, Nat.zero_mul, Nat.zero_add]
    rw [List.set_append_left _ _ (by omega)]
  | x :: es, hl, i + 1, k, e, v, hi, hk => by
    have hx : x.length = sz := hl x (by simp)
    simp only [List.getElem?_cons_succ] at hi
    have ih := flat_set (fun y hy => hl y (by simp [hy])) (v := v) hi hk
    simp only [List.set_cons_succ, List.flatten_cons, ih]
    rw [List.set_append_right _ _ (by rw [hx, Nat.add_mul]; omega), hx]
    have : (i + 1) * sz + k - sz = i * sz + k := by rw [Nat.add_mul]; omega
    rw [this]

theorem flat_sub {sz : Nat} : ∀ {es : List (List Value)} (_ : ∀ e ∈ es, e.length = sz) (l : Nat), (es.drop l).flatten = es.flatten.drop (l * sz)
  | [], _, l => by simp
  | x :: es, hl, 0 => by simp
  | x :: es, hl, l + 1 => by
    have hx : x.length = sz := hl x (by simp)
    have ih := flat_sub (es := es) (fun y hy => hl y (List.mem_cons_of_mem _ hy)) l
    simp only [List.drop_succ_cons, ih, List.flatten_cons]
    rw [List.drop_append]
    have h1 : (l + 1) * sz - x.length = l * sz := by rw [hx, Nat.add_mul]; omega
    have h2 : x.length ≤ (l + 1) * sz := by rw [hx, Nat.add_mul]; omega
    rw [h1, List.drop_of_length_le h2]
    simp

theorem RowOk.cell {w : World} {rw : Bool} {a : Addr} {cs : List Value} {m j : Nat} {v : Value} (h : RowOk w rw a cs m) (hj : cs[j]? = some v) : w.cell? (a.add j) = some v := by
  obtain ⟨hs, arr, el, fz, hh, _, _, _, hv⟩ := h
  obtain ⟨b, o, s⟩ := a
  simp only at hs hh hv
  subst hs
  rw [add_mk]
  simp only [World.cell?, hh, Option.isSome_none, Bool.false_eq_true, if_false]
  exact hv j v hj

theorem add_add {a : Addr} (hs : a.spot = none) (m n : Nat) : (a.add m).add n = a.add (m + n) := by
  obtain ⟨b, o, s⟩ := a
  simp only at hs
  subst hs
  simp [add_mk, Nat.add_assoc]

/-- The row's address, whatever the header; and the chunk again, with other elements. -/
theorem Chunk.ok.row {w : World} {rw : Bool} {c : Chunk} (h : c.ok w rw) (hne : 0 < c.es.length) :
    ∃ a m, RowOk w rw a c.es.flatten m ∧ c.blk = some a.block ∧ (∀ x y, adr c.h c.sz x y = .pointer (some (a.add (x * c.sz + y)))) ∧
      ∀ (w' : World) (rw' : Bool) (es' : List (List Value)), es'.length = c.es.length → (∀ e ∈ es', e.length = c.sz) → RowOk w' rw' a es'.flatten m → (⟨c.h, c.sz, es'⟩ : Chunk).ok w' rw' := by
  obtain ⟨hd, sz, es⟩ := c
  obtain ⟨h0, h1, h2⟩ := h
  simp only at h0 h1 h2 hne ⊢
  cases hd with
  | pointer a =>
    cases a with
    | none => exact h2.elim
    | some a => exact ⟨a, _, h2, rfl, fun _ _ => rfl, fun w' rw' es' hl hs hr => ⟨h0, hs, by simp only [hl]; exact hr⟩⟩
  | slice a n cap =>
    cases a with
    | none => rw [h2.2.2] at hne; simp at hne
    | some a =>
      have hc : 0 < cap := by omega
      exact ⟨a, _, h2.2.2 hc, by simp only [Chunk.blk, blkOf]; rw [if_neg (by omega)], fun _ _ => rfl, fun w' rw' es' hl hs hr => ⟨h0, hs, by simp only [hl]; exact ⟨h2.1, h2.2.1, fun _ => hr⟩⟩⟩
  | iface g v => rw [h2.1] at hne; simp at hne
  | _ => exact h2.elim

theorem Chunk.ok.at_ {w : World} {rw : Bool} {c : Chunk} (h : c.ok w rw) {i k : Nat} {e : List Value} {v : Value} (hi : c.es[i]? = some e) (hk : e[k]? = some v) :
    ∃ a m, RowOk w rw a c.es.flatten m ∧ c.blk = some a.block ∧ (∀ x y, adr c.h c.sz x y = .pointer (some (a.add (x * c.sz + y)))) ∧ w.cell? (a.add (i * c.sz + k)) = some v := by
  obtain ⟨a, m, h1, h2, h3, _⟩ := h.row (by have := (List.getElem?_eq_some_iff.1 hi).1; omega)
  exact ⟨a, m, h1, h2, h3, h1.cell (flat_get h.2.1 hi hk)⟩

theorem mem_ok {w : World} {ro ch : List Chunk} {c : Chunk} (hs : St w ro ch) (h : c ∈ ro ++ ch) : c.ok w false := by
  rcases List.mem_append.1 h with h | h
  · exact hs.rok c h
  · exact (hs.wok c h).weak

/-- An operation that yields one value in every world in which the chunks stand. -/
def OpV (P : Program) (N : Nat) (ro ch : List Chunk) (o : Oper) (sl : Slots) (v : Value) : Prop :=
  ∀ a w, Kn a N sl → St w ro ch → (execOp a.eval o).run P w = .ok (.value v) w

theorem opk_of_opv {P : Program} {N : Nat} {ro : List Chunk} {o : Oper} {sl : Slots} {ch : List Chunk} {R : KPred} {v : Value} (h : OpV P N ro ch o sl v) (hR : R (putS o.dst v sl) ch) : OpK P N ro o sl ch R :=
  opk_pure h hR

theorem kops_v {E : Env} {ops : Array Oper} {Q : Exit → KPred} {o : Oper} {l : List Oper} {sl : Slots} {ch : List Chunk} {v : Value} (hg : o.guard = none)
    (h : OpV E.P E.N E.ro ch o sl v) (hR : KOps E ops Q l (putS o.dst v sl) ch) : KOps E ops Q (o :: l) sl ch := kops_step hg (opk_of_opv h hR)

section
variable {P : Program} {N : Nat} {ro : List Chunk} {o : Oper} {sl : Slots} {ch : List Chunk}

/-- Reading one cell. -/
theorem opv_load {t : TypeId} {x : Operand} {h : Value} {sz i k : Nat} {es : List (List Value)} {e : List Value} {v : Value}
    (ho : o.op = .load t x) (hx : kev N sl x = some (adr h sz i k)) (hag : ∀ w, (isAgg t).run P w = .ok false w)
    (hm : (⟨h, sz, es⟩ : Chunk) ∈ ro ++ ch) (hi : es[i]? = some e) (hk : e[k]? = some v) : OpV P N ro ch o sl v := by
  intro a w hkn hs
  obtain ⟨ad, m, hrow, _, had, hc⟩ := (mem_ok hs hm).at_ hi hk
  have hev := hkn.ev hx
  simp only at had hc
  rw [had] at hev
  unfold execOp
  simp [ho, hev, Instr.loadAt, Instr.sureAddr, loadVar, hag, hc]

/-- Reading a whole element. -/
theorem opv_load_agg {t : TypeId} {x : Operand} {h : Value} {sz i : Nat} {es : List (List Value)} {e : List Value}
    (ho : o.op = .load t x) (hx : kev N sl x = some (adr h sz i 0)) (hag : ∀ w, (isAgg t).run P w = .ok true w) (hsz : ∀ w, (sizeOf t).run P w = .ok sz w)
    (hm : (⟨h, sz, es⟩ : Chunk) ∈ ro ++ ch) (hi : es[i]? = some e) : OpV P N ro ch o sl (.agg e.toArray) := by
  intro a w hkn hs
  have hok := mem_ok hs hm
  have hlen : e.length = sz := hok.2.1 e (List.mem_of_getElem? hi)
  have hpos : 0 < sz := hok.1
  have h0 : e[0]? = some e[0] := List.getElem?_eq_getElem (by omega)
  obtain ⟨ad, m, hrow, _, had, hc⟩ := hok.at_ hi h0
  have hev := hkn.ev hx
  simp only at had hc hrow
  rw [had] at hev
  have hl := run_loadCells_list (P := P) w (ad.add (i * sz)) e (fun j v hj => by
    rw [add_add hrow.1]
    exact hrow.cell (flat_get hok.2.1 hi hj))
  rw [hlen] at hl
  unfold execOp
  simp [ho, hev, Instr.loadAt, Instr.sureAddr, loadVar, hag, hsz, hl]

/-- The same at a variable's own box. -/
theorem adr_box (p : Addr) (sz : Nat) : adr (.pointer (some p)) sz 0 0 = .pointer (some p) := by
  simp [adr, Addr.add]

theorem opv_load_box {t : TypeId} {x : Operand} {p : Addr} {sz : Nat} {e : List Value}
    (ho : o.op = .load t x) (hx : kev N sl x = some (.pointer (some p))) (hag : ∀ w, (isAgg t).run P w = .ok true w) (hsz : ∀ w, (sizeOf t).run P w = .ok sz w)
    (hm : (⟨.pointer (some p), sz, [e]⟩ : Chunk) ∈ ro ++ ch) : OpV P N ro ch o sl (.agg e.toArray) :=
  opv_load_agg (h := .pointer (some p)) (i := 0) (es := [e]) ho (by rw [adr_box]; exact hx) hag hsz hm rfl

theorem opv_indexAddr {t e : TypeId} {x ix : Operand} {a : Option Addr} {n c sz : Nat} {k : IntKind} {i : Int} {es : List (List Value)}
    (ho : o.op = .indexAddr t x ix) (hx : kev N sl x = some (.slice a n c)) (hi : kev N sl ix = some (.int k i))
    (hu : ∀ w, (underlying t).run P w = .ok (.slice e) w) (hsz : ∀ w, (sizeOf e).run P w = .ok sz w)
    (hm : (⟨.slice a n c, sz, es⟩ : Chunk) ∈ ro ++ ch) (h0 : 0 ≤ i) (hn : i < es.length)
    : OpV P N ro ch o sl (adr (.slice a n c) sz i.toNat 0) := by
  intro ac w hkn hs
  have hok := mem_ok hs hm
  have hx := hkn.ev hx
  have hi := hkn.ev hi
  obtain ⟨hp, _, hh⟩ := hok
  cases a with
  | none =>
    simp only at hh
    rw [hh.2.2] at hn
    simp at hn
    omega
  | some ad =>
    simp only at hh
    obtain ⟨hlen, _, _⟩ := hh
    have hn' : 0 ≤ i ∧ i < (n : Int) := ⟨h0, by rw [hlen]; exact hn⟩
    unfold execOp
    simp [ho, hx, hi, Instr.indexAt, asIntOf, hu, hsz, hn', adr]

theorem opv_move {x : Operand} {v : Value} (ho : o.op = .move x) (hx : kev N sl x = some v) : OpV P N ro ch o sl v :=
  fun a w hkn _ => by unfold execOp; simp [ho, hkn.ev hx]

theorem opv_assign {x : Operand} {v : Value} (ho : o.op = .assign x) (hx : kev N sl x = some v) : OpV P N ro ch o sl v :=
  fun a w hkn _ => by unfold execOp; simp [ho, hkn.ev hx]

theorem opv_pick_t {c x y : Operand} {b : Bool} {v : Value} (ho : o.op = .pick c x y) (hc : kev N sl c = some (.bool b)) (hx : kev N sl x = some v) (hb : b = true)
    : OpV P N ro ch o sl v :=
  fun a w hkn _ => by
    have h1 := hkn.ev hc
    rw [hb] at h1
    unfold execOp; simp [ho, h1, hkn.ev hx, asBool]

theorem opv_pick_f {c x y : Operand} {b : Bool} {v : Value} (ho : o.op = .pick c x y) (hc : kev N sl c = some (.bool b)) (hx : kev N sl y = some v) (hb : b = false)
    : OpV P N ro ch o sl v :=
  fun a w hkn _ => by
    have h1 := hkn.ev hc
    rw [hb] at h1
    unfold execOp; simp [ho, h1, hkn.ev hx, asBool]

/-- What a test of two numbers says. -/
def cmpB : BinOp → Int → Int → Option Bool
  | .eql, a, b => some (a == b)
  | .neq, a, b => some (a != b)
  | .lss, a, b => some (decide (a < b))
  | .leq, a, b => some (decide (a ≤ b))
  | .gtr, a, b => some (decide (b < a))
  | .geq, a, b => some (decide (b ≤ a))
  | _, _, _ => none

theorem opv_cmp {op : BinOp} {t u : TypeId} {x y : Operand} {k : IntKind} {a b : Int} {r : Bool} (ho : o.op = .binOp op t x y u) (hx : kev N sl x = some (.int k a)) (hy : kev N sl y = some (.int k b))
    (hc : cmpB op a b = some r) : OpV P N ro ch o sl (.bool r) :=
  fun ac w hkn _ => by
    have h1 := hkn.ev hx
    have h2 := hkn.ev hy
    unfold execOp
    cases op <;> simp only [cmpB, Option.some.injEq, reduceCtorEq] at hc <;> subst hc <;> simp [ho, h1, h2, eqGuard, binOp, Op.intCmp]

/-- Sums, differences and products, wrapped. -/
def ariB (k : IntKind) : BinOp → Int → Int → Option Int
  | .add, a, b => some (k.wrap (a + b))
  | .sub, a, b => some (k.wrap (a - b))
  | .mul, a, b => some (k.wrap (a * b))
  | _, _, _ => none

theorem opv_ari {op : BinOp} {t u : TypeId} {x y : Operand} {k : IntKind} {a b r : Int} (ho : o.op = .binOp op t x y u) (hx : kev N sl x = some (.int k a)) (hy : kev N sl y = some (.int k b))
    (hc : ariB k op a b = some r) : OpV P N ro ch o sl (.int k r) :=
  fun ac w hkn _ => by
    have h1 := hkn.ev hx
    have h2 := hkn.ev hy
    unfold execOp
    cases op <;> simp only [ariB, Option.some.injEq, reduceCtorEq] at hc <;> subst hc <;> simp [ho, h1, h2, eqGuard, binOp, Op.intArith]

theorem opv_quo {t u : TypeId} {x y : Operand} {k : IntKind} {a b : Int} (ho : o.op = .binOp .quo t x y u) (hx : kev N sl x = some (.int k a)) (hy : kev N sl y = some (.int k b))
    (h0 : b ≠ 0) : OpV P N ro ch o sl (.int k (k.wrap (a.tdiv b))) :=
  fun ac w hkn _ => by unfold execOp; simp [ho, hkn.ev hx, hkn.ev hy, eqGuard, binOp, Op.intDiv, h0]

theorem opv_rem {t u : TypeId} {x y : Operand} {k : IntKind} {a b : Int} (ho : o.op = .binOp .rem t x y u) (hx : kev N sl x = some (.int k a)) (hy : kev N sl y = some (.int k b))
    (h0 : b ≠ 0) : OpV P N ro ch o sl (.int k (a.tmod b)) :=
  fun ac w hkn _ => by unfold execOp; simp [ho, hkn.ev hx, hkn.ev hy, eqGuard, binOp, Op.intDiv, h0]

theorem opv_not {t : TypeId} {x : Operand} {b : Bool} (ho : o.op = .unOp .not t x) (hx : kev N sl x = some (.bool b)) : OpV P N ro ch o sl (.bool (!b)) :=
  fun a w hkn _ => by unfold execOp; simp [ho, hkn.ev hx, Op.unary]

theorem opv_neg {t : TypeId} {x : Operand} {k : IntKind} {a : Int} (ho : o.op = .unOp .neg t x) (hx : kev N sl x = some (.int k a)) : OpV P N ro ch o sl (.int k (k.wrap (0 - a))) :=
  fun ac w hkn _ => by unfold execOp; simp [ho, hkn.ev hx, Op.unary, Op.intArith]

theorem opv_neb {t u : TypeId} {x y : Operand} {a b : Bool} (ho : o.op = .binOp .neq t x y u) (hx : kev N sl x = some (.bool a)) (hy : kev N sl y = some (.bool b))
    (hu : P.underlying t = some .bool) : OpV P N ro ch o sl (.bool (!(a == b))) :=
  fun ac w hkn _ => by unfold execOp; simp [ho, hkn.ev hx, hkn.ev hy, eqGuard, binOp, Op.equal, Op.maxDepth, run_equalIn_bool' w _ t a b hu]

theorem opv_len {t ty : TypeId} {x : Operand} {a : Option Addr} {n c : Nat} {e : TypeId} (ho : o.op = .call { callee := .builtin .len, args := #[x], argTypes := #[t] }) (hty : o.type = ty)
    (hx : kev N sl x = some (.slice a n c)) (hu : ∀ w, (underlying t).run P w = .ok (.slice e) w) : OpV P N ro ch o sl (.int .i64 n) :=
  fun ac w hkn _ => by unfold execOp; simp [ho, hty, hkn.ev hx, resolve, invoke, builtin, Builtin.len_, hu, goInt]

theorem opv_min {t u : TypeId} {x y : Operand} {k : IntKind} {a b : Int} (ho : o.op = .call { callee := .builtin .min, args := #[x, y], argTypes := #[t, u] })
    (hx : kev N sl x = some (.int k a)) (hy : kev N sl y = some (.int k b)) : OpV P N ro ch o sl (.int k (min a b)) :=
  fun ac w hkn _ => by
    have e : (if b < a then b else a) = min a b := by rw [Int.min_def]; split <;> split <;> omega
    unfold execOp; simp [ho, hkn.ev hx, hkn.ev hy, resolve, invoke, builtin, Builtin.min_, Builtin.min2, e]

theorem opv_max {t u : TypeId} {x y : Operand} {k : IntKind} {a b : Int} (ho : o.op = .call { callee := .builtin .max, args := #[x, y], argTypes := #[t, u] })
    (hx : kev N sl x = some (.int k a)) (hy : kev N sl y = some (.int k b)) : OpV P N ro ch o sl (.int k (max a b)) :=
  fun ac w hkn _ => by
    have e : (if a < b then b else a) = max a b := by rw [Int.max_def]; split <;> split <;> omega
    unfold execOp; simp [ho, hkn.ev hx, hkn.ev hy, resolve, invoke, builtin, Builtin.max_, Builtin.max2, e]

theorem opv_conv {s d : TypeId} {x : Operand} {k kd : IntKind} {a : Int} {ds : TypeDesc} (ho : o.op = .convert s d x) (hx : kev N sl x = some (.int k a))
    (hus : ∀ w, (underlying s).run P w = .ok ds w) (hud : ∀ w, (underlying d).run P w = .ok (.int kd) w) : OpV P N ro ch o sl (.int kd (kd.wrap a)) :=
  fun ac w hkn _ => by unfold execOp; simp [ho, hkn.ev hx, convert, hus, hud, Conv.intToInt]

theorem opv_extract {x : Operand} {i : Nat} {vs : Array Value} {v : Value} (ho : o.op = .extract x i) (hx : kev N sl x = some (.tuple vs)) (hi : vs[i]? = some v) : OpV P N ro ch o sl v :=
  fun ac w hkn _ => by unfold execOp; simp [ho, hkn.ev hx, Instr.extract, hi]

/-- A struct or an array by its parts. -/
theorem opv_build {t : TypeId} {ps : Array (Nat × Operand)} {vs : List (Nat × Value)} {z : Value} {fs : Array Field} {places : Array (Nat × Nat)} {cells : Array Value} (ho : o.op = .build t ps)
    (hx : ps.toList.map (fun p => (p.1, kev N sl p.2)) = vs.map (fun p => (p.1, some p.2))) (hz : ∀ w, (zeroValue t).run P w = .ok z w) (hu : ∀ w, (underlying t).run P w = .ok (.struct fs) w)
    (hpl : ∀ w, (fs.mapM (fun (f : Field) => (do pure (f.offset, ← sizeOf f.type) : Sem (Nat × Nat)))).run P w = .ok places w) (hf : Instr.fill (places[·]?) z.cells vs = some cells) : OpV P N ro ch o sl (.agg cells) :=
  fun a w hkn _ => by
    have hvs : (ps.map fun p => (p.1, a.eval p.2)).toList = vs := by
      rw [Array.toList_map]
      have : ∀ (l : List (Nat × Operand)) (vs : List (Nat × Value)), l.map (fun p => (p.1, kev N sl p.2)) = vs.map (fun p => (p.1, some p.2)) → l.map (fun p => (p.1, a.eval p.2)) = vs := by
        intro l
        induction l with
        | nil => intro vs h; cases vs <;> simp_all
        | cons q l ih =>
          intro vs h
          cases vs with
          | nil => simp at h
          | cons v vs =>
            obtain ⟨v1, v2⟩ := v
            obtain ⟨q1, q2⟩ := q
            simp only [List.map_cons, List.cons.injEq, Prod.mk.injEq] at h ⊢
            exact ⟨⟨h.1.1, hkn.ev h.1.2⟩, ih vs h.2⟩
      exact this _ _ hx
    have e : (ps.map fun (i, x) => (i, a.eval x)) = vs.toArray := Array.toList_inj.1 (by simpa using hvs)
    have h0 : execOp a.eval o = (do pure (.value (← Instr.build t (ps.map fun (i, x) => (i, a.eval x))))) := by unfold execOp; rw [ho]
    rw [h0, e]
    have h1 : (Instr.build t vs.toArray).run P w = .ok (.agg cells) w := by
      unfold Instr.build
      simp only [Sem.run_bind, hz, Result.andThen_ok, hu, hpl]
      simp only [hf, Sem.run_pure]
    simp [h1]

theorem opv_shl {t u : TypeId} {x y : Operand} {k k' : IntKind} {a b : Int} (ho : o.op = .binOp .shl t x y u) (hx : kev N sl x = some (.int k a)) (hy : kev N sl y = some (.int k' b))
    (h0 : 0 ≤ b) : OpV P N ro ch o sl (.int k (k.wrap (a * 2 ^ min b.toNat k.bits))) :=
  fun ac w hkn _ => by
    have h0' : ¬ b < 0 := by omega
    unfold execOp; simp [ho, hkn.ev hx, hkn.ev hy, eqGuard, binOp, Op.shift, h0']

theorem opv_shr {t u : TypeId} {x y : Operand} {k k' : IntKind} {a b : Int} (ho : o.op = .binOp .shr t x y u) (hx : kev N sl x = some (.int k a)) (hy : kev N sl y = some (.int k' b))
    (h0 : 0 ≤ b) : OpV P N ro ch o sl (.int k (a.fdiv (2 ^ min b.toNat k.bits))) :=
  fun ac w hkn _ => by
    have h0' : ¬ b < 0 := by omega
    unfold execOp; simp [ho, hkn.ev hx, hkn.ev hy, eqGuard, binOp, Op.shift, h0']

/-- Bits of two numbers. -/
def bitB (k : IntKind) : BinOp → Int → Int → Option Int
  | .and, a, b => some (k.wrap (BitVec.ofInt k.bits a &&& BitVec.ofInt k.bits b).toNat)
  | .or, a, b => some (k.wrap (BitVec.ofInt k.bits a ||| BitVec.ofInt k.bits b).toNat)
  | .xor, a, b => some (k.wrap (BitVec.ofInt k.bits a ^^^ BitVec.ofInt k.bits b).toNat)
  | _, _, _ => none

theorem opv_bit {op : BinOp} {t u : TypeId} {x y : Operand} {k : IntKind} {a b r : Int} (ho : o.op = .binOp op t x y u) (hx : kev N sl x = some (.int k a)) (hy : kev N sl y = some (.int k b))
    (hc : bitB k op a b = some r) : OpV P N ro ch o sl (.int k r) :=
  fun ac w hkn _ => by
    have h1 := hkn.ev hx
    have h2 := hkn.ev hy
    unfold execOp
    cases op <;> simp only [bitB, Option.some.injEq, reduceCtorEq] at hc <;> subst hc <;> simp [ho, h1, h2, eqGuard, binOp, Op.intBits]

/-- A slice of a slice: its header. -/
def subS (a : Option Addr) (c sz l h : Nat) : Value := .slice (if c = l then a else a.map (·.add (l * sz))) (h - l) (c - l)

theorem opv_slice {t e : TypeId} {x : Operand} {lo hi : Option Operand} {a : Option Addr} {n c sz l h : Nat} (ho : o.op = .slice t x lo hi none) (hx : kev N sl x = some (.slice a n c))
    (hu : ∀ w, (underlying t).run P w = .ok (.slice e) w) (hsz : ∀ w, (sizeOf e).run P w = .ok sz w)
    (hlo : match lo with | none => l = 0 | some y => ∃ k, kev N sl y = some (.int k l)) (hhi : match hi with | none => h = n | some y => ∃ k, kev N sl y = some (.int k h))
    (hlh : l ≤ h) (hn : h ≤ c) : OpV P N ro ch o sl (subS a c sz l h) :=
  fun ac w hkn _ => by
    have hx' := hkn.ev hx
    unfold execOp
    have hh : (match hi with | some v => Instr.sliceBound (ac.eval v) c .sliceAcap | none => pure n : Sem Nat).run P w = .ok h w := by
      cases hi with
      | none => simp only at hhi; subst hhi; rfl
      | some y =>
        obtain ⟨k, hy⟩ := hhi
        simp [Instr.sliceBound, asIntOf, hkn.ev hy, hn]
    have hl : (match lo with | some v => Instr.sliceBound (ac.eval v) h .sliceB | none => pure 0 : Sem Nat).run P w = .ok l w := by
      cases lo with
      | none => simp only at hlo; subst hlo; rfl
      | some y =>
        obtain ⟨k, hy⟩ := hlo
        simp [Instr.sliceBound, asIntOf, hkn.ev hy, hlh]
    cases lo <;> cases hi <;> simp only [] at hh hl <;>
      simp [ho, hx', Instr.sliceAt, hu, Instr.slice, Instr.sliceBounds, hh, hl, hsz, subS] <;> simp_all

end
end Go.Proofs.YtpfijnklnljccaaDoor

namespace Go.Proofs.YtpfijnklnljccaaDoor
open Go

/-- A chunk is taken out. -/
inductive Pick : List Chunk → Chunk → List Chunk → Prop
  | here {c : Chunk} {r : List Chunk} : Pick (c :: r) c r
  | there {a c : Chunk} {r s : List Chunk} : Pick r c s → Pick (a :: r) c (a :: s)

/-- A chunk is replaced in its place. -/
inductive Upd : List Chunk → Chunk → Chunk → List Chunk → Prop
  | here {c d : Chunk} {r : List Chunk} : Upd (c :: r) c d (d :: r)
  | there {a c d : Chunk} {r s : List Chunk} : Upd r c d s → Upd (a :: r) c d (a :: s)

theorem Pick.perm {l r : List Chunk} {c : Chunk} (h : Pick l c r) : l.Perm (c :: r) := by
  induction h with
  | here => exact .refl _
  | there _ ih => exact (ih.cons _).trans (.swap _ _ _)

theorem Pick.mem {l r : List Chunk} {c : Chunk} (h : Pick l c r) : c ∈ l := h.perm.symm.subset List.mem_cons_self

theorem Upd.perm {l r : List Chunk} {c d : Chunk} (h : Upd l c d r) : ∃ s, l.Perm (c :: s) ∧ r.Perm (d :: s) := by
  induction h with
  | here => exact ⟨_, .refl _, .refl _⟩
  | there _ ih =>
    obtain ⟨s, h1, h2⟩ := ih
    exact ⟨_, (h1.cons _).trans (.swap _ _ _), (h2.cons _).trans (.swap _ _ _)⟩

theorem Upd.at {l : List Chunk} {c d : Chunk} : ∀ {n : Nat}, l[n]? = some c → Upd l c d (l.set n d) := by
  induction l with
  | nil => intro n h; simp at h
  | cons a l ih =>
    intro n h
    cases n with
    | zero => simp at h; subst h; exact .here
    | succ n => exact .there (ih (by simpa using h))

/-- One chunk has changed, in its own block or into a new one; all other blocks are as they were. -/
theorem St.upd {w w' : World} {ro ch ch' : List Chunk} {c d : Chunk} (h : St w ro ch) (u : Upd ch c d ch') (hd : d.ok w' true)
    (henv : w'.os = w.os ∧ w'.tape = w.tape ∧ w'.output = w.output) (hsz : w.heap.size ≤ w'.heap.size) (hk : ∀ b, b < w.heap.size → c.blk ≠ some b → w'.heap[b]? = w.heap[b]?)
    (hb : ∀ b, d.blk = some b → b < w.heap.size → c.blk = some b) : St w' ro ch' ∧ Ext w ch w' ch' := by
  obtain ⟨s, h1, h2⟩ := u.perm
  have e : Ext w [c] w' [d] := ⟨hsz, fun b hlt hn => hk b hlt (hn c (by simp)), fun x hx b hxb hlt => by
    simp only [List.mem_singleton] at hx; subst hx; exact ⟨c, by simp, hb b hxb hlt⟩, henv⟩
  have hs1 : St w' [] [d] := { rok := fun x hx => (by cases hx), wok := fun x hx => (by simp only [List.mem_singleton] at hx; subst hx; exact hd), pw := (by simp), rs := fun x hx => (by cases hx) }
  obtain ⟨g1, g2⟩ := h.frame (rwC := [c]) (rest := s) (roC := []) h1 hs1 e
  exact ⟨g1.sub ⟨[], by simpa using h2.symm⟩, g2.sub ⟨[], by simpa using h2.symm⟩⟩

/-- The same, the chunk in front. -/
theorem St.repl {w w' : World} {ro ch r : List Chunk} {c d : Chunk} (h : St w ro ch) (u : Pick ch c r) (hd : d.ok w' true)
    (henv : w'.os = w.os ∧ w'.tape = w.tape ∧ w'.output = w.output) (hsz : w.heap.size ≤ w'.heap.size) (hk : ∀ b, b < w.heap.size → c.blk ≠ some b → w'.heap[b]? = w.heap[b]?)
    (hb : ∀ b, d.blk = some b → b < w.heap.size → c.blk = some b) : St w' ro (d :: r) ∧ Ext w ch w' (d :: r) := by
  have e : Ext w [c] w' [d] := ⟨hsz, fun b hlt hn => hk b hlt (hn c (by simp)), fun x hx b hxb hlt => by
    simp only [List.mem_singleton] at hx; subst hx; exact ⟨c, by simp, hb b hxb hlt⟩, henv⟩
  have hs1 : St w' [] [d] := { rok := fun x hx => (by cases hx), wok := fun x hx => (by simp only [List.mem_singleton] at hx; subst hx; exact hd), pw := (by simp), rs := fun x hx => (by cases hx) }
  exact h.frame (rwC := [c]) (rest := r) (roC := []) u.perm hs1 e

/-- A new chunk in a new block. -/
theorem St.new {w w' : World} {ro ch : List Chunk} {d : Chunk} (h : St w ro ch) (hd : d.ok w' true)
    (henv : w'.os = w.os ∧ w'.tape = w.tape ∧ w'.output = w.output) (hsz : w.heap.size ≤ w'.heap.size) (hk : ∀ b, b < w.heap.size → w'.heap[b]? = w.heap[b]?) (hb : ∀ b, d.blk = some b → w.heap.size ≤ b) : St w' ro (d :: ch) ∧ Ext w ch w' (d :: ch) := by
  have e : Ext w [] w' [d] := ⟨hsz, fun b hlt _ => hk b hlt, fun x hx b hxb hlt => by
    simp only [List.mem_singleton] at hx; subst hx; have := hb b hxb; omega, henv⟩
  have hs1 : St w' [] [d] := { rok := fun x hx => (by cases hx), wok := fun x hx => (by simp only [List.mem_singleton] at hx; subst hx; exact hd), pw := (by simp), rs := fun x hx => (by cases hx) }
  exact h.frame (rwC := []) (rest := ch) (roC := []) (by simp) hs1 e

theorem upd_mem {l r : List Chunk} {c d : Chunk} (u : Upd l c d r) : c ∈ l := by
  obtain ⟨s, h1, _⟩ := u.perm
  exact h1.symm.subset (by simp)

theorem heap_setCell_other (w : World) (a : Addr) (v : Value) (b : Nat) (h : a.block ≠ b) : (w.setCell a v).heap[b]? = w.heap[b]? := by
  simp [World.setCell, Array.getElem?_modify, h]

theorem RowOk.set {w : World} {a : Addr} {cs : List Value} {m j : Nat} {v : Value} (h : RowOk w true a cs m) (_hj : j < cs.length) : RowOk (w.setCell (a.add j) v) true a (cs.set j v) m := by
  obtain ⟨hs, arr, el, fz, hh, hfz, hm, hl, hv⟩ := h
  obtain ⟨b, o, s⟩ := a
  simp only at hs hh hv hm
  subst hs
  rw [add_mk]
  refine ⟨rfl, arr.setIfInBounds (o + j) v, el, fz, ?_, hfz, by simpa using hm, by simpa using hl, fun i u hi => ?_⟩
  · simp [World.setCell, Array.getElem?_modify, hh]
  · simp only [List.getElem?_set] at hi
    by_cases e : j = i
    · subst e
      rw [if_pos rfl] at hi
      rw [if_pos _hj] at hi
      cases hi
      show (arr.setIfInBounds (o + j) v)[o + j]? = some v
      rw [Array.getElem?_setIfInBounds_self_of_lt (by omega)]
    · rw [if_neg e] at hi
      show (arr.setIfInBounds (o + j) v)[o + i]? = some u
      rw [Array.getElem?_setIfInBounds_ne (by omega)]
      exact hv i u hi

theorem RowOk.free {w : World} {a : Addr} {cs : List Value} {m : Nat} (h : RowOk w true a cs m) (j : Nat) : w.frozen? (a.add j) = false := by
  obtain ⟨hs, arr, el, fz, hh, hfz, _⟩ := h
  obtain ⟨b, o, s⟩ := a
  simp only at hs hh
  subst hs
  rw [add_mk]
  simp [World.frozen?, hh, hfz rfl]

theorem flat_setAll {sz : Nat} {e' : List Value} : ∀ {es : List (List Value)} {i : Nat} (_ : ∀ e ∈ es, e.length = sz) (_ : e'.length = sz) (_ : i < es.length),
    (es.set i e').flatten = es.flatten.take (i * sz) ++ e' ++ es.flatten.drop (i * sz + e'.length)
  | [], i, _, _, h => by simp at h
  | y :: es, 0, hl, he, _ => by
    have hy : y.length = sz := hl y (by simp)
    simp only [List.set_cons_zero, List.flatten_cons, Nat.zero_mul, List.take_zero, List.nil_append, Nat.zero_add]
    rw [he, ← hy, List.drop_left]
  | y :: es, i + 1, hl, he, h => by
    have hy : y.length = sz := hl y (by simp)
    have ih := flat_setAll (es := es) (i := i) (fun z hz => hl z (List.mem_cons_of_mem _ hz)) he (by simpa using h)
    simp only [List.set_cons_succ, List.flatten_cons, ih]
    have e1 : (i + 1) * sz = y.length + i * sz := by rw [hy, Nat.add_mul]; omega
    rw [e1, Nat.add_assoc, List.take_length_add_append, List.drop_length_add_append]
    simp

section
variable {P : Program} {N : Nat} {ro : List Chunk} {o : Oper} {sl : Slots} {ch : List Chunk} {R : KPred}

/-- Writing one cell. -/
theorem opk_store {t : TypeId} {x y : Operand} {h : Value} {sz i k : Nat} {es : List (List Value)} {e : List Value} {v : Value} {ch' : List Chunk}
    (ho : o.op = .store t x y) (hx : kev N sl x = some (adr h sz i k)) (hy : kev N sl y = some v) (hsz : ∀ w, (sizeOf t).run P w = .ok 1 w)
    (hv : v.oneCell' = true) (hu : Upd ch ⟨h, sz, es⟩ ⟨h, sz, es.set i (e.set k v)⟩ ch') (hi : es[i]? = some e) (hk : k < sz) (hR : R (putS o.dst undef sl) ch') : OpK P N ro o sl ch R := by
  intro a w hkn hs K Q hK
  have hok := hs.wok _ (upd_mem hu)
  have hlen : e.length = sz := hok.2.1 e (List.mem_of_getElem? hi)
  have hi' : i < es.length := (List.getElem?_eq_some_iff.1 hi).1
  obtain ⟨ad, m, hrow, hblk, had, hback⟩ := hok.row (show 0 < es.length by omega)
  simp only at had hrow hblk hback
  have hc := hrow.cell (flat_get hok.2.1 hi (List.getElem?_eq_getElem (show k < e.length by omega)))
  have hev := hkn.ev hx
  have hev2 := hkn.ev hy
  rw [had] at hev
  have hcv : v.cells = #[v] := by cases v <;> first | rfl | (simp [Value.oneCell'] at hv)
  have hst := run_store P w (ad.add (i * sz + k)) v .plain hv
  rw [hc] at hst
  simp only [hrow.free, Bool.false_eq_true, if_false] at hst
  have h0 : (ad.add (i * sz + k)).add 0 = ad.add (i * sz + k) := by simp [Addr.add]
  have hrun : (execOp a.eval o).run P w = .ok .skip (w.setCell (ad.add (i * sz + k)) v) := by
    unfold execOp
    simp [ho, hev, hev2, Instr.storeAt, Instr.sureAddr, storeVar, hsz, hcv, storeCells, h0, hst]
  have hlt : i * sz + k < es.flatten.length := by
    have hfl := flat_length hok.2.1
    simp only at hfl
    rw [hfl]
    have := Nat.mul_le_mul_right sz (show i + 1 ≤ es.length by omega)
    rw [Nat.add_mul] at this
    omega
  have hd : (⟨h, sz, es.set i (e.set k v)⟩ : Chunk).ok (w.setCell (ad.add (i * sz + k)) v) true := by
    refine hback _ _ _ (by simp) (fun x hx => ?_) ?_
    · rcases List.mem_or_eq_of_mem_set hx with hx | rfl
      · exact hok.2.1 x hx
      · simpa using hlen
    · have hfs := flat_set hok.2.1 (v := v) hi hk
      simp only at hfs
      rw [hfs]
      exact hrow.set hlt
  have hab : (ad.add (i * sz + k)).block = ad.block := by
    obtain ⟨b, oo, s⟩ := ad
    have : s = none := hrow.1
    subst this
    rw [add_mk]
  obtain ⟨s1, s2⟩ := hs.upd hu hd ⟨rfl, rfl, rfl⟩ (by simp) (fun b _ hb => heap_setCell_other w _ v b (fun e => hb (by
      rw [hblk, ← hab, e]))) (fun b hb _ => hb)
  unfold Oper.wp
  rw [hrun]
  exact hK _ _ _ _ hR (hkn.put _ _) s1 s2

theorem new_ok {w : World} {cells : Array Value} {el : TypeId} {sz : Nat} {e : List Value} (h : cells.toList = e) (hl : e.length = sz) (hp : 0 < sz) :
    (⟨.pointer (some ⟨w.heap.size, 0, none⟩), sz, [e]⟩ : Chunk).ok (w.alloc (.cells cells el)) true := by
  refine ⟨hp, by simpa using hl, ?_⟩
  refine ⟨rfl, cells, el, (0, 0), heap_alloc_new w _, fun _ => rfl, ?_, ?_, ?_⟩
  · have := congrArg List.length h; simp at this; simp; omega
  · simp; omega
  · intro j v hj
    simp only [List.flatten_cons, List.flatten_nil, List.append_nil, ← h] at hj
    simpa using hj

theorem new_slice_ok {w : World} {cells : Array Value} {el : TypeId} {sz n cap : Nat} {es : List (List Value)} (hp : 0 < sz) (hl : ∀ e ∈ es, e.length = sz)
    (hn : n = es.length) (hc : n ≤ cap) (hs : cap * sz ≤ cells.size) (hv : ∀ (j : Nat) (v : Value), es.flatten[j]? = some v → cells[j]? = some v) :
    (⟨.slice (some ⟨w.heap.size, 0, none⟩) n cap, sz, es⟩ : Chunk).ok (w.alloc (.cells cells el)) true := by
  refine ⟨hp, hl, hn, hc, fun _ => ⟨rfl, cells, el, (0, 0), heap_alloc_new w _, fun _ => rfl, by simpa using hs, ?_, ?_⟩⟩
  · rw [flat_length hl, ← hn]; exact Nat.mul_le_mul_right _ hc
  · intro j v hj; simpa using hv j v hj

theorem alloc_old {w : World} {ob : Obj} (b : Nat) (h : b < w.heap.size) : (w.alloc ob).heap[b]? = w.heap[b]? := by
  exact heap_alloc_old w ob h

/-- A new variable that holds a value. -/
theorem opk_box {t : TypeId} {x : Operand} {v : Value} {e : List Value} (ho : o.op = .box t x) (hx : kev N sl x = some v) (he : v.cells.toList = e) (hp : 0 < e.length)
    (hR : ∀ p : Addr, R (putS o.dst (.pointer (some p)) sl) (⟨.pointer (some p), e.length, [e]⟩ :: ch)) : OpK P N ro o sl ch R := by
  intro a w hkn hs K Q hK
  have hrun : (execOp a.eval o).run P w = .ok (.value (.pointer (some ⟨w.heap.size, 0, none⟩))) (w.alloc (.cells v.cells t)) := by
    unfold execOp
    simp [ho, hkn.ev hx, Instr.box, newVar, newRow]
  obtain ⟨s1, s2⟩ := hs.new (new_ok (w := w) (el := t) he rfl hp) ⟨rfl, rfl, rfl⟩ (by simp) (fun b hb => alloc_old b hb) (fun b hb => by
    simp only [Chunk.blk, blkOf, Option.some.injEq] at hb; omega)
  unfold Oper.wp
  rw [hrun]
  exact hK _ _ _ _ (hR _) (hkn.put _ _) s1 s2

/-- A new variable at its type's zero. -/
theorem opk_alloc {t : TypeId} {z : Value} {e : List Value} (ho : o.op = .alloc t) (hz : ∀ w, (zeroValue t).run P w = .ok z w) (he : z.cells.toList = e) (hp : 0 < e.length)
    (hR : ∀ p : Addr, R (putS o.dst (.pointer (some p)) sl) (⟨.pointer (some p), e.length, [e]⟩ :: ch)) : OpK P N ro o sl ch R := by
  intro a w hkn hs K Q hK
  have hrun : (execOp a.eval o).run P w = .ok (.value (.pointer (some ⟨w.heap.size, 0, none⟩))) (w.alloc (.cells z.cells t)) := by
    unfold execOp
    simp [ho, Instr.alloc, hz, newVar, newRow]
  obtain ⟨s1, s2⟩ := hs.new (new_ok (w := w) (el := t) he rfl hp) ⟨rfl, rfl, rfl⟩ (by simp) (fun b hb => alloc_old b hb) (fun b hb => by
    simp only [Chunk.blk, blkOf, Option.some.injEq] at hb; omega)
  unfold Oper.wp
  rw [hrun]
  exact hK _ _ _ _ (hR _) (hkn.put _ _) s1 s2

theorem run_storeAll (P : Program) : ∀ (vs : List Value) (cs : List Value) (i : Nat) (a : Addr) (m : Nat) (w : World), RowOk w true a cs m → i + vs.length ≤ cs.length → (∀ v ∈ vs, v.oneCell' = true) →
    ∃ w', (storeCells a vs i).run P w = .ok () w' ∧ RowOk w' true a (cs.take i ++ vs ++ cs.drop (i + vs.length)) m ∧ w'.heap.size = w.heap.size ∧ (∀ b, b ≠ a.block → w'.heap[b]? = w.heap[b]?) ∧ w'.os = w.os ∧ w'.tape = w.tape ∧ w'.output = w.output
  | [], cs, i, a, m, w, h, _, _ => ⟨w, rfl, by simpa using h, rfl, fun _ _ => rfl, rfl, rfl, rfl⟩
  | v :: vs, cs, i, a, m, w, h, hl, h1 => by
    simp only [List.length_cons] at hl
    have hc := h.cell (j := i) (List.getElem?_eq_getElem (by omega))
    have hst := run_store P w (a.add i) v .plain (h1 v (by simp))
    rw [hc] at hst
    simp only [h.free, Bool.false_eq_true, if_false] at hst
    have hset := h.set (j := i) (v := v) (by omega)
    obtain ⟨w', hr, hrow, hs, hb, he⟩ := run_storeAll P vs (cs.set i v) (i + 1) a m (w.setCell (a.add i) v) hset (by simp; omega) (fun x hx => h1 x (by simp [hx]))
    have hab : (a.add i).block = a.block := by
      obtain ⟨b, oo, s⟩ := a
      have : s = none := h.1
      subst this
      rw [add_mk]
    refine ⟨w', ?_, ?_, by rw [hs]; simp, fun b hbn => (hb b hbn).trans (heap_setCell_other w _ v b (by rw [hab]; exact hbn.symm)), he⟩
    · simp only [storeCells, Sem.run_bind, hst, Result.andThen_ok]
      exact hr
    · have e1 : (cs.set i v).take (i + 1) = cs.take i ++ [v] := by
        rw [List.take_succ_eq_append_getElem (by simp; omega)]
        simp [List.take_set_of_le]
      have e2 : (cs.set i v).drop (i + 1 + vs.length) = cs.drop (i + (vs.length + 1)) := by
        rw [List.drop_set_of_lt (by omega)]
        congr 1; omega
      rw [e1, e2] at hrow
      simpa using hrow

/-- Writing a whole element. -/
theorem opk_store_agg {t : TypeId} {x y : Operand} {h : Value} {sz i : Nat} {es : List (List Value)} {e e' : List Value} {v : Value} {ch' : List Chunk}
    (ho : o.op = .store t x y) (hx : kev N sl x = some (adr h sz i 0)) (hy : kev N sl y = some v) (hsz : ∀ w, (sizeOf t).run P w = .ok sz w)
    (hcv : v.cells.toList = e') (hv : ∀ u ∈ e', u.oneCell' = true) (hl : e'.length = sz) (hu : Upd ch ⟨h, sz, es⟩ ⟨h, sz, es.set i e'⟩ ch') (hi : es[i]? = some e) (hR : R (putS o.dst undef sl) ch') : OpK P N ro o sl ch R := by
  intro a w hkn hs K Q hK
  have hok := hs.wok _ (upd_mem hu)
  have hi' : i < es.length := (List.getElem?_eq_some_iff.1 hi).1
  obtain ⟨ad, m, hrow, hblk, had, hback⟩ := hok.row (show 0 < es.length by omega)
  have hfl := flat_length hok.2.1
  have hsq := hok.2.1
  simp only at had hrow hblk hback hfl hsq
  have hev := hkn.ev hx
  have hev2 := hkn.ev hy
  rw [had] at hev
  have hle : i * sz + e'.length ≤ es.flatten.length := by
    rw [hfl, hl]
    have := Nat.mul_le_mul_right sz (show i + 1 ≤ es.length by omega)
    rw [Nat.add_mul] at this
    omega
  obtain ⟨w', hr, hrow', hsize, hoth, henv⟩ := run_storeAll P e' es.flatten (i * sz) ad m w hrow hle hv
  have hshift : ∀ (vs : List Value) (k j : Nat), storeCells (ad.add k) vs j = storeCells ad vs (k + j) := by
    intro vs
    induction vs with
    | nil => intro k j; rfl
    | cons u vs ih => intro k j; simp only [storeCells]; rw [add_add hrow.1, ih]; rfl
  have hcs : v.cells.size = sz := by have := congrArg List.length hcv; simp at this; omega
  have hrun : (execOp a.eval o).run P w = .ok .skip w' := by
    unfold execOp
    simp [ho, hev, hev2, Instr.storeAt, Instr.sureAddr, storeVar, hsz, hcs, hcv, hshift, hr]
  have hset := flat_setAll hsq hl hi'
  have hd : (⟨h, sz, es.set i e'⟩ : Chunk).ok w' true := by
    refine hback _ _ _ (by simp) (fun x hx => ?_) ?_
    · rcases List.mem_or_eq_of_mem_set hx with hx | rfl
      · exact hsq x hx
      · exact hl
    · rw [hset]; exact hrow'
  obtain ⟨s1, s2⟩ := hs.upd hu hd henv (by omega) (fun b _ hb => hoth b (fun e => hb (by rw [hblk, e]))) (fun b hb _ => hb)
  unfold Oper.wp
  rw [hrun]
  exact hK _ _ _ _ hR (hkn.put _ _) s1 s2

theorem opk_store_box {t : TypeId} {x y : Operand} {p : Addr} {sz : Nat} {e e' : List Value} {v : Value} {ch' : List Chunk}
    (ho : o.op = .store t x y) (hx : kev N sl x = some (.pointer (some p))) (hy : kev N sl y = some v) (hsz : ∀ w, (sizeOf t).run P w = .ok sz w)
    (hcv : v.cells.toList = e') (hv : ∀ u ∈ e', u.oneCell' = true) (hl : e'.length = sz)
    (hu : Upd ch ⟨.pointer (some p), sz, [e]⟩ ⟨.pointer (some p), sz, [e']⟩ ch') (hR : R (putS o.dst undef sl) ch') : OpK P N ro o sl ch R :=
  opk_store_agg (h := .pointer (some p)) (i := 0) (es := [e]) ho (by rw [adr_box]; exact hx) hy hsz hcv hv hl hu rfl hR

end
end Go.Proofs.YtpfijnklnljccaaDoor

namespace Go.Proofs.YtpfijnklnljccaaDoor
open Go

/-- A part of a slice. -/
theorem Chunk.ok.cut {w : World} {rw : Bool} {a : Option Addr} {n c sz l h : Nat} {es : List (List Value)} (hk : (⟨.slice a n c, sz, es⟩ : Chunk).ok w rw) (hlh : l ≤ h) (hn : h ≤ n) :
    (⟨subS a c sz l h, sz, (es.drop l).take (h - l)⟩ : Chunk).ok w rw ∧ ∀ b, (⟨subS a c sz l h, sz, (es.drop l).take (h - l)⟩ : Chunk).blk = some b → (⟨.slice a n c, sz, es⟩ : Chunk).blk = some b := by
  obtain ⟨h0, h1, h2⟩ := hk
  simp only at h0 h1 h2
  have hall : ∀ e ∈ (es.drop l).take (h - l), e.length = sz := fun e he => h1 e (List.mem_of_mem_drop (List.mem_of_mem_take he))
  cases a with
  | none =>
    obtain ⟨e1, e2, e3⟩ := h2
    subst e1 e2 e3
    have : h = 0 := by omega
    subst this
    have : l = 0 := by omega
    subst this
    exact ⟨⟨h0, by simp, by simp [subS]⟩, by simp [Chunk.blk, blkOf, subS]⟩
  | some ad =>
    obtain ⟨e1, e2, hrow⟩ := h2
    have hlen : ((es.drop l).take (h - l)).length = h - l := by simp; omega
    have hfl := flat_length hall
    by_cases hc0 : c = 0
    · subst hc0
      have hh : h = 0 := by omega
      have hl' : l = 0 := by omega
      subst hh hl'
      refine ⟨⟨h0, by simp, ?_⟩, ?_⟩
      · simp [subS]
      · intro b' hb'; simp [Chunk.blk, blkOf, subS] at hb'
    obtain ⟨hs, arr, el, fz, hh, hfz, hm, hl, hv⟩ := hrow (by omega)
    have hmul : (c - l) * sz + l * sz = c * sz := by rw [← Nat.add_mul]; congr 1; omega
    obtain ⟨b, oo, s⟩ := ad
    simp only at hs hh hm hv
    subst hs
    by_cases hc : c = l
    · have hhl : h - l = 0 := by omega
      refine ⟨⟨h0, hall, ?_⟩, ?_⟩
      · simp only [subS, if_pos hc, hlen]
        exact ⟨trivial, by omega, fun hcl => by omega⟩
      · intro b' hb'
        simp only [Chunk.blk, blkOf, subS, if_pos hc] at hb'
        rw [if_pos (by omega)] at hb'
        cases hb'
    · refine ⟨⟨h0, hall, ?_⟩, ?_⟩
      · simp only [subS, if_neg hc, Option.map_some, hlen, add_mk]
        refine ⟨trivial, by omega, fun _ => ⟨rfl, arr, el, fz, hh, hfz, ?_, ?_, ?_⟩⟩
        · show oo + l * sz + (c - l) * sz ≤ arr.size
          omega
        · rw [hfl, hlen]; exact Nat.mul_le_mul_right _ (by omega)
        · intro j v hj
          have hjl : j < (h - l) * sz := by
            have := (List.getElem?_eq_some_iff.1 hj).1
            rwa [hfl, hlen] at this
          have hd : (es.drop l).flatten[j]? = some v := by
            have : (es.drop l) = (es.drop l).take (h - l) ++ (es.drop l).drop (h - l) := (List.take_append_drop _ _).symm
            rw [this, List.flatten_append, List.getElem?_append_left (by rw [hfl, hlen]; exact hjl)]
            exact hj
          rw [flat_sub h1, List.getElem?_drop] at hd
          have := hv _ v hd
          show arr[oo + l * sz + j]? = some v
          rw [Nat.add_assoc]; exact this
      · intro b' hb'
        simp only [Chunk.blk, blkOf, subS, if_neg hc, Option.map_some, add_mk] at hb' ⊢
        split at hb'
        · cases hb'
        · rw [if_neg hc0]; exact hb'

theorem View.cut {a : Option Addr} {n c sz l h : Nat} {es : List (List Value)} (hlh : l ≤ h) (hn : h ≤ n) : View ⟨.slice a n c, sz, es⟩ ⟨subS a c sz l h, sz, (es.drop l).take (h - l)⟩ :=
  fun _ hk => hk.cut hlh hn

/-- A nil slice is a chunk of nobody's. -/
theorem nil_ok {w : World} {rw : Bool} {sz : Nat} (h : 0 < sz) : (⟨.slice none 0 0, sz, []⟩ : Chunk).ok w rw := ⟨h, by simp, rfl, rfl, rfl⟩

theorem St.nil {w : World} {ro ch : List Chunk} {sz : Nat} (h : St w ro ch) (hp : 0 < sz) : St w ro (⟨.slice none 0 0, sz, []⟩ :: ch) where
  rok := h.rok
  wok c hc := by
    rcases List.mem_cons.1 hc with rfl | hc
    · exact nil_ok hp
    · exact h.wok c hc
  pw := List.pairwise_cons.2 ⟨fun d _ b hb => by simp [Chunk.blk, blkOf] at hb, h.pw⟩
  rs c hc d hd := by
    rcases List.mem_cons.1 hd with rfl | hd
    · exact fun b _ hd => by simp [Chunk.blk, blkOf] at hd
    · exact h.rs c hc d hd

theorem In.nil {E : Env} {sl : Slots} {ch : List Chunk} {a : Act} {w : World} {sz : Nat} (h : In E sl ch a w) (hp : 0 < sz) : In E sl (⟨.slice none 0 0, sz, []⟩ :: ch) a w :=
  ⟨h.kn, h.st.nil hp, ⟨h.ext.size, h.ext.keep, fun c hc b hb hlt => by
    rcases List.mem_cons.1 hc with rfl | hc
    · simp [Chunk.blk, blkOf] at hb
    · exact h.ext.from_ c hc b hb hlt, h.ext.env⟩⟩

theorem kops_nilchunk {E : Env} {ops : Array Oper} {Q : Exit → KPred} {l : List Oper} {sl : Slots} {ch : List Chunk} (sz : Nat) (hp : 0 < sz) (h : KOps E ops Q l sl (⟨.slice none 0 0, sz, []⟩ :: ch)) : KOps E ops Q l sl ch :=
  fun a w hi => h a w (hi.nil hp)

section
variable {P : Program} {N : Nat} {ro : List Chunk} {o : Oper} {sl : Slots} {ch : List Chunk} {R : KPred}

theorem flat_replicate (z : List Value) (n : Nat) : (List.replicate n z).flatten.length = n * z.length := by
  rw [flat_length (sz := z.length) (fun e he => by rw [List.eq_of_mem_replicate he])]; simp

theorem rep_get {z : List Value} (hz : 0 < z.length) : ∀ (n j : Nat) (v : Value), (List.replicate n z).flatten[j]? = some v → z[j % z.length]? = some v
  | 0, j, v, h => by simp at h
  | n + 1, j, v, h => by
    simp only [List.replicate_succ, List.flatten_cons] at h
    by_cases hj : j < z.length
    · rw [List.getElem?_append_left hj] at h
      rw [Nat.mod_eq_of_lt hj]; exact h
    · rw [List.getElem?_append_right (by omega)] at h
      have := rep_get hz n _ v h
      rw [Nat.mod_eq_sub_mod (by omega)]; exact this

theorem get_zeros {z : Array Value} (hz : 0 < z.size) {n j : Nat} {v : Value} (h : (List.replicate n z.toList).flatten[j]? = some v) : ((Array.range (n * z.size)).map (z[· % z.size]!))[j]? = some v := by
  have hlt := (List.getElem?_eq_some_iff.1 h).1
  rw [flat_replicate] at hlt
  have h2 := rep_get (z := z.toList) (by simpa using hz) n j v h
  have hlt' : j < n * z.size := by simpa using hlt
  have hm : j % z.size < z.size := Nat.mod_lt _ hz
  simp only [Array.length_toList, Array.getElem?_toList] at h2
  rw [Array.getElem?_eq_getElem hm, Option.some.injEq] at h2
  have h3 : z[j % z.size]! = v := by rw [getElem!_pos z (j % z.size) hm]; exact h2
  simp [hlt', h3]

/-- A new slice of zeros. -/
theorem opk_make {t e : TypeId} {x y : Operand} {k k' : IntKind} {n : Int} {i : TypeInfo} {z : Value} {sz : Nat} {zs : List Value} (ho : o.op = .makeSlice t x y) (hx : kev N sl x = some (.int k n)) (hy : kev N sl y = some (.int k' n))
    (ht : P.underlying t = some (.slice e)) (hi : P.info? e = some i) (hz : i.zero = some z) (hsz : i.size = sz)
    (hzs : z.cells.toList = zs) (hzl : zs.length = sz) (hp : 0 < sz) (h0 : 0 ≤ n) (hb : (i.bytes : Int) * n ≤ 281474976710656) (hn : n ≤ 9223372036854775807)
    (hR : ∀ p : Addr, R (putS o.dst (.slice (some p) n.toNat n.toNat) sl) (⟨.slice (some p) n.toNat n.toNat, sz, List.replicate n.toNat zs⟩ :: ch)) : OpK P N ro o sl ch R := by
  intro a w hkn hs K Q hK
  have hzsz : z.cells.size = sz := by have := congrArg List.length hzs; simp at this; omega
  have hr := run_make (P := P) w t e i z ht hi hz k k' n n h0 (Int.le_refl _) hb hn
  rw [hsz] at hr
  have h1 : (execOp a.eval o).run P w = .ok (.value (.slice (some ⟨w.heap.size, 0, none⟩) n.toNat n.toNat)) (w.alloc (.cells (madeCells z.cells (n.toNat * sz)) e)) := by
    unfold execOp
    simp [ho, hkn.ev hx, hkn.ev hy, hr]
  have hget : ∀ (j : Nat) (v : Value), (List.replicate n.toNat zs).flatten[j]? = some v → (madeCells z.cells (n.toNat * sz))[j]? = some v := by
    intro j v hj
    rw [← hzs] at hj
    have := get_zeros (z := z.cells) (by omega) hj
    rw [hzsz] at this
    unfold madeCells
    rw [hzsz]
    exact this
  have hok : (⟨.slice (some ⟨w.heap.size, 0, none⟩) n.toNat n.toNat, sz, List.replicate n.toNat zs⟩ : Chunk).ok (w.alloc (.cells (madeCells z.cells (n.toNat * sz)) e)) true :=
    new_slice_ok hp (fun x hx => by rw [List.eq_of_mem_replicate hx]; exact hzl) (by simp) (Nat.le_refl _) (by rw [size_madeCells]; exact Nat.le_refl _) hget
  obtain ⟨s1, s2⟩ := hs.new hok ⟨rfl, rfl, rfl⟩ (by simp) (fun b hb => alloc_old b hb) (fun b hb => by
    simp only [Chunk.blk, blkOf] at hb
    split at hb
    · cases hb
    · simp only [Option.some.injEq] at hb; omega)
  unfold Oper.wp
  rw [h1]
  exact hK _ _ _ _ (hR _) (hkn.put _ _) s1 s2

theorem fill_all {sz : Nat} : ∀ (vs : List Value) (k : Nat) (cells : Array Value), (∀ v ∈ vs, v.cells.size = sz) → (k + vs.length) * sz ≤ cells.size →
    ∃ out, Instr.fill (fun i => some (i * sz, sz)) cells ((List.range' k vs.length).zip vs) = some out ∧ out.size = cells.size ∧
      (∀ j, j < k * sz → out[j]? = cells[j]?) ∧ (∀ (j : Nat) (u : Value), (vs.map (fun v => v.cells.toList)).flatten[j]? = some u → out[k * sz + j]? = some u)
  | [], k, cells, _, _ => ⟨cells, rfl, rfl, fun _ _ => rfl, fun j u h => by simp at h⟩
  | v :: vs, k, cells, hv, hl => by
    have hvs : v.cells.size = sz := hv v (by simp)
    have hk : k * sz + sz ≤ cells.size := by
      have := Nat.mul_le_mul_right sz (show k + 1 ≤ k + (v :: vs).length by simp)
      rw [Nat.add_mul] at this
      omega
    have hfold : ∀ (l : List Value) (off : Nat) (cs : Array Value), off + l.length ≤ cs.size →
        ∃ out : Array Value, (l.zipIdx.foldl (fun (cs : Array Value) (x : Value × Nat) => cs.setIfInBounds (off + x.2) x.1) cs) = out ∧ out.size = cs.size ∧ (∀ j, j < off → out[j]? = cs[j]?) ∧ (∀ j, off + l.length ≤ j → out[j]? = cs[j]?) ∧ ∀ (j : Nat) (u : Value), l[j]? = some u → out[off + j]? = some u := by
      intro l
      have aux : ∀ (l : List Value) (s off : Nat) (cs : Array Value), off + s + l.length ≤ cs.size →
          ∃ out : Array Value, ((l.zipIdx s).foldl (fun (cs : Array Value) (x : Value × Nat) => cs.setIfInBounds (off + x.2) x.1) cs) = out ∧ out.size = cs.size ∧ (∀ j, j < off + s → out[j]? = cs[j]?) ∧ (∀ j, off + s + l.length ≤ j → out[j]? = cs[j]?) ∧ ∀ (j : Nat) (u : Value), l[j]? = some u → out[off + s + j]? = some u := by
        intro l
        induction l with
        | nil => intro s off cs _; exact ⟨cs, rfl, rfl, fun _ _ => rfl, fun _ _ => rfl, fun j u h => by simp at h⟩
        | cons x l ih =>
          intro s off cs hle
          simp only [List.length_cons] at hle
          obtain ⟨out, h1, h2, h3, h4, h5⟩ := ih (s + 1) off (cs.setIfInBounds (off + s) x) (by simp; omega)
          refine ⟨out, by simpa [List.zipIdx_cons] using h1, by simpa using h2, ?_, ?_, ?_⟩
          · intro j hj
            rw [h3 j (by omega), Array.getElem?_setIfInBounds_ne (by omega)]
          · intro j hj
            simp only [List.length_cons] at hj
            rw [h4 j (by omega), Array.getElem?_setIfInBounds_ne (by omega)]
          · intro j u hj
            cases j with
            | zero =>
              simp only [List.getElem?_cons_zero, Option.some.injEq] at hj
              subst hj
              rw [h3 _ (by omega)]
              simp only [Nat.add_zero]
              rw [Array.getElem?_setIfInBounds_self_of_lt (by omega)]
            | succ j =>
              have := h5 j u (by simpa using hj)
              rw [show off + s + (j + 1) = off + (s + 1) + j by omega]
              exact this
      intro off cs hle
      have := aux l 0 off cs (by omega)
      simpa using this
    obtain ⟨mid, m1, m2, m3, m4, m5⟩ := hfold v.cells.toList (k * sz) cells (by simp; omega)
    obtain ⟨out, o1, o2, o3, o4⟩ := fill_all vs (k + 1) mid (fun x hx => hv x (by simp [hx])) (by simp only [List.length_cons] at hl; rw [m2, show k + 1 + vs.length = k + (vs.length + 1) by omega]; exact hl)
    refine ⟨out, ?_, by rw [o2, m2], ?_, ?_⟩
    · simp only [List.length_cons, List.range'_succ, List.zip_cons_cons, Instr.fill]
      have hcond : (decide (v.cells.size ≠ sz) || decide (k * sz + v.cells.size > cells.size)) = false := by simp [hvs]; omega
      rw [if_neg (by rw [hcond]; simp)]
      have : (v.cells.zipIdx.foldl (fun (cs : Array Value) (x : Value × Nat) => cs.setIfInBounds (k * sz + x.2) x.1) cells) = mid := by
        rw [← m1, ← Array.foldl_toList, Array.toList_zipIdx]
      rw [← o1]
      congr 1
    · intro j hj
      rw [o3 j (by rw [Nat.add_mul]; omega), m3 j hj]
    · intro j u hj
      simp only [List.map_cons, List.flatten_cons] at hj
      by_cases hjv : j < sz
      · rw [List.getElem?_append_left (by simp; omega)] at hj
        rw [o3 _ (by rw [Nat.add_mul]; omega)]
        exact m5 j u hj
      · rw [List.getElem?_append_right (by simp; omega)] at hj
        have := o4 _ u hj
        simp only [Array.length_toList, hvs] at this
        rw [show k * sz + j = (k + 1) * sz + (j - sz) by rw [Nat.add_mul]; omega]
        exact this

/-- A slice literal, all of its elements given in their order. -/
theorem opk_buildSlice {t e : TypeId} {n : Nat} {ps : Array (Nat × Operand)} {vs : List Value} {z : Value} {sz : Nat} (ho : o.op = .buildSlice t n ps)
    (hps : ps.toList.map (fun p => (p.1, kev N sl p.2)) = (List.range' 0 vs.length).zip (vs.map some)) (hn : vs.length = n)
    (hu : ∀ w, (underlying t).run P w = .ok (.slice e) w) (hsz : ∀ w, (sizeOf e).run P w = .ok sz w) (hz : ∀ w, (zeroValue e).run P w = .ok z w) (_hzl : z.cells.size = sz) (hp : 0 < sz)
    (hv : ∀ v ∈ vs, v.cells.size = sz) (hb : n * sz ≤ 16777216)
    (hR : ∀ p : Addr, R (putS o.dst (.slice (some p) n n) sl) (⟨.slice (some p) n n, sz, vs.map (fun v => v.cells.toList)⟩ :: ch)) : OpK P N ro o sl ch R := by
  intro a w hkn hs K Q hK
  have hlist : (ps.map fun p => (p.1, a.eval p.2)).toList = (List.range' 0 vs.length).zip vs := by
    rw [Array.toList_map]
    have : ∀ (l : List (Nat × Operand)) (vs : List Value) (k : Nat), l.map (fun p => (p.1, kev N sl p.2)) = (List.range' k vs.length).zip (vs.map some) → l.map (fun p => (p.1, a.eval p.2)) = (List.range' k vs.length).zip vs := by
      intro l
      induction l with
      | nil => intro vs k h; cases vs <;> simp_all [List.range'_succ]
      | cons q l ih =>
        intro vs k h
        cases vs with
        | nil => simp at h
        | cons v vs =>
          simp only [List.length_cons, List.range'_succ, List.map_cons, List.zip_cons_cons, List.cons.injEq, Prod.mk.injEq] at h ⊢
          exact ⟨⟨h.1.1, hkn.ev h.1.2⟩, ih vs (k + 1) h.2⟩
    exact this _ _ _ hps
  have hparts : (ps.map fun (i, x) => (i, a.eval x)) = ((List.range' 0 vs.length).zip vs).toArray := Array.toList_inj.1 (by simpa using hlist)
  have h0 : execOp a.eval o = (do pure (.value (← Instr.buildSlice t n (ps.map fun (i, x) => (i, a.eval x))))) := by unfold execOp; rw [ho]
  have hlim : ¬ n * sz > 2 ^ 24 := by simp; omega
  obtain ⟨arr, harr, hsize, hget⟩ : ∃ arr : Array Value, (execOp a.eval o).run P w = .ok (.value (.slice (some ⟨w.heap.size, 0, none⟩) n n)) (w.alloc (.cells arr e)) ∧ arr.size = n * sz ∧
      ∀ (j : Nat) (v : Value), (vs.map (fun v => v.cells.toList)).flatten[j]? = some v → arr[j]? = some v := by
    by_cases hn0 : n * sz = 0
    · have hn' : n = 0 := by rcases Nat.mul_eq_zero.1 hn0 with h | h <;> omega
      subst hn'
      have hvs : vs = [] := List.eq_nil_of_length_eq_zero hn
      subst hvs
      refine ⟨#[], ?_, by simp, by simp⟩
      rw [h0, hparts]
      simp [Instr.buildSlice, hu, hsz, Instr.fill, newRow, Array.range_zero']
    · obtain ⟨out, f1, f2, _, f4⟩ := fill_all vs 0 ((Array.range (n * sz)).map (z.cells[· % z.cells.size]!)) hv (by simp [hn])
      refine ⟨out, ?_, by simpa using f2, fun j v hj => by simpa using f4 j v hj⟩
      rw [h0, hparts]
      unfold Instr.buildSlice
      simp only [Sem.run_bind, hu, Result.andThen_ok, hsz, Sem.run_ite, hlim, if_false, hn0, hz, Sem.run_pure]
      rw [f1]
      simp [newRow]
  have hok : (⟨.slice (some ⟨w.heap.size, 0, none⟩) n n, sz, vs.map (fun v => v.cells.toList)⟩ : Chunk).ok (w.alloc (.cells arr e)) true :=
    new_slice_ok hp (fun x hx => by
      obtain ⟨v, hvm, rfl⟩ := List.mem_map.1 hx
      simpa using hv v hvm) (by simp [hn]) (Nat.le_refl _) (by omega) hget
  obtain ⟨s1, s2⟩ := hs.new hok ⟨rfl, rfl, rfl⟩ (by simp) (fun b hb => alloc_old b hb) (fun b hb => by
    simp only [Chunk.blk, blkOf] at hb
    split at hb
    · cases hb
    · simp only [Option.some.injEq] at hb; omega)
  unfold Oper.wp
  rw [harr]
  exact hK _ _ _ _ (hR _) (hkn.put _ _) s1 s2

theorem run_app_room (P : Program) (w : World) {t ty e : TypeId} {i : TypeInfo} (ht : P.underlying t = some (.slice e)) (hi : P.info? e = some i)
    {ad : Addr} {n c m c2 : Nat} {b : Addr} {cs news : List Value} {mm : Nat} (hrow : RowOk w true ad cs mm) (hcs : cs.length = n * i.size) (hmm : (n + m) * i.size ≤ mm) (hl : news.length = m * i.size) (hnews : ∀ j v, news[j]? = some v → w.cell? (b.add j) = some v) (h1 : ∀ u ∈ news, u.oneCell' = true)
    (hroom : n + m ≤ c) :
    ∃ w', (Builtin.append_ #[t, t] ty #[.slice (some ad) n c, .slice (some b) m c2]).run P w = .ok (.slice (some ad) (n + m) c) w' ∧ RowOk w' true ad (cs ++ news) mm ∧ w'.heap.size = w.heap.size ∧ (∀ b, b ≠ ad.block → w'.heap[b]? = w.heap[b]?) ∧ w'.os = w.os ∧ w'.tape = w.tape ∧ w'.output = w.output := by
  have hf := run_firstCells_some (P := P) w i.size m b m c2 news hl hnews
  obtain ⟨hs, arr, el, fz, hh, hfz, hm, hcl, hv⟩ := hrow
  obtain ⟨g, oo, s⟩ := ad
  simp only at hs hh hm hv
  subst hs
  have hfz' := hfz rfl
  subst hfz'
  have hfit : oo + n * i.size + 0 + news.length ≤ arr.size := by
    rw [Nat.add_mul] at hmm
    omega
  have hst := run_storeCells_at P g (oo + n * i.size) el news 0 arr w hh hfit h1
  simp only [Nat.add_zero] at hst
  have hsh : storeCells ((⟨g, oo, none⟩ : Addr).add (n * i.size)) news 0 = storeCells ⟨g, oo + n * i.size, none⟩ news 0 := by rw [add_mk]
  refine ⟨w.setRow g (List.take (oo + n * i.size) arr.toList ++ news ++ List.drop (oo + n * i.size + news.length) arr.toList).toArray, ?_, ⟨rfl, _, el, (0, 0), setRow_heap w g arr _ el _ hh, fun _ => rfl, ?_, ?_, ?_⟩, by simp, fun b hb => setRow_other w g b _ hb, rfl, rfl, rfl⟩
  · simp [Builtin.append_, run_underlying ht, sizeOf, typeInfo, hi, Builtin.lenOf, hroom, hf, hsh, hst]
  · simp only [List.size_toArray, List.length_append, List.length_take, List.length_drop, Array.length_toList]
    omega
  · rw [List.length_append, hcs, hl, ← Nat.add_mul]; exact hmm
  · intro j v hj
    have hjl := (List.getElem?_eq_some_iff.1 hj).1
    rw [List.length_append, hcs, hl] at hjl
    show (List.take (oo + n * i.size) arr.toList ++ news ++ List.drop (oo + n * i.size + news.length) arr.toList).toArray[oo + j]? = some v
    simp only [List.getElem?_toArray]
    have hlen : (List.take (oo + n * i.size) arr.toList).length = oo + n * i.size := by simp; omega
    by_cases hjn : j < n * i.size
    · rw [List.getElem?_append_left (by rw [hcs]; exact hjn)] at hj
      rw [List.append_assoc, List.getElem?_append_left (by rw [hlen]; omega), List.getElem?_take_of_lt (by omega)]
      simpa using hv j v hj
    · rw [List.getElem?_append_right (by rw [hcs]; omega)] at hj
      rw [List.append_assoc, List.getElem?_append_right (by rw [hlen]; omega), List.getElem?_append_left (by rw [hlen]; omega), hlen]
      rw [hcs] at hj
      rw [← hj]
      congr 1
      omega

/-- append: a chunk of the call's own grows, in its place or into a new block. -/
theorem opk_append {t e : TypeId} {x y : Operand} {i : TypeInfo} {z : Value} {sz : Nat} {a b : Option Addr} {n c m c2 : Nat} {es es2 : List (List Value)} {r : List Chunk} (ho : o.op = .call { callee := .builtin .append, args := #[x, y], argTypes := #[t, t] })
    (hx : kev N sl x = some (.slice a n c)) (hy : kev N sl y = some (.slice b m c2))
    (ht : P.underlying t = some (.slice e)) (hi : P.info? e = some i) (hz : i.zero = some z) (hsz : i.size = sz) (hzl : z.cells.size = sz)
    (hm : (⟨.slice b m c2, sz, es2⟩ : Chunk) ∈ ro ++ ch) (hone : ∀ e ∈ es2, ∀ u ∈ e, u.oneCell' = true) (hp : Pick ch ⟨.slice a n c, sz, es⟩ r) (h63 : n + m ≤ 4611686018427387904) (hb : (n + m) * i.bytes ≤ 140737488355328)
    (hR : ∀ (a' : Option Addr) (c' : Nat), R (putS o.dst (.slice a' (n + m) c') sl) (⟨.slice a' (n + m) c', sz, es ++ es2⟩ :: r)) : OpK P N ro o sl ch R := by
  intro ac w hkn hs K Q hK
  have hok := hs.wok _ hp.mem
  have hok2 := mem_ok hs hm
  obtain ⟨p0, p1, p2⟩ := hok
  obtain ⟨q0, q1, q2⟩ := hok2
  simp only at p0 p1 p2 q0 q1 q2
  have hfl := flat_length p1
  have hfl2 := flat_length q1
  have hall : ∀ e ∈ es ++ es2, e.length = sz := fun e he => by
    rcases List.mem_append.1 he with h | h
    · exact p1 e h
    · exact q1 e h
  have hone' : ∀ u ∈ es2.flatten, u.oneCell' = true := fun u hu => by
    obtain ⟨e, he, hue⟩ := List.mem_flatten.1 hu
    exact hone e he u hue
  have hfin : ∀ (a' : Option Addr) (c' : Nat) (w' : World), (Builtin.append_ #[t, t] o.type #[.slice a n c, .slice b m c2]).run P w = .ok (.slice a' (n + m) c') w' →
      (⟨.slice a' (n + m) c', sz, es ++ es2⟩ : Chunk).ok w' true → (w'.os = w.os ∧ w'.tape = w.tape ∧ w'.output = w.output) → w.heap.size ≤ w'.heap.size → (∀ b, b < w.heap.size → (⟨.slice a n c, sz, es⟩ : Chunk).blk ≠ some b → w'.heap[b]? = w.heap[b]?) →
      (∀ b, (⟨.slice a' (n + m) c', sz, es ++ es2⟩ : Chunk).blk = some b → b < w.heap.size → (⟨.slice a n c, sz, es⟩ : Chunk).blk = some b) → o.wp P ac w K Q := by
    intro a' c' w' hr hd he h1 h2 h3
    obtain ⟨s1, s2⟩ := hs.repl hp hd he h1 h2 h3
    have h0 : (execOp ac.eval o).run P w = .ok (.value (.slice a' (n + m) c')) w' := by
      unfold execOp
      simp [ho, hkn.ev hx, hkn.ev hy, resolve, invoke, builtin, hr]
    unfold Oper.wp
    rw [h0]
    exact hK _ _ _ _ (hR a' c') (hkn.put _ _) s1 s2
  subst hsz
  -- the source
  cases b with
  | none =>
    obtain ⟨e1, e2, e3⟩ := q2
    subst e1 e2 e3
    refine hfin a c w ?_ ?_ ⟨rfl, rfl, rfl⟩ (Nat.le_refl _) (fun _ _ _ => rfl) (fun b hb _ => hb)
    · have hnc : n ≤ c := by
        cases a with
        | none => obtain ⟨f1, f2, _⟩ := p2; omega
        | some ad => exact p2.2.1
      cases a with
      | none => simp [Builtin.append_, run_underlying ht, sizeOf, typeInfo, hi, Builtin.lenOf, Builtin.firstCells, hnc]
      | some ad => simp [Builtin.append_, run_underlying ht, sizeOf, typeInfo, hi, Builtin.lenOf, Builtin.firstCells, hnc, storeCells]
    · rw [List.append_nil]; exact ⟨p0, p1, p2⟩
  | some bd =>
    obtain ⟨r1, r2, r3⟩ := q2
    have hnews : ∀ (j : Nat) (v : Value), es2.flatten[j]? = some v → w.cell? (bd.add j) = some v := fun j v hj => by
      have hjl := (List.getElem?_eq_some_iff.1 hj).1
      rw [hfl2] at hjl
      have : 0 < es2.length := by
        rcases Nat.eq_zero_or_pos es2.length with h | h
        · rw [h] at hjl; omega
        · exact h
      exact (r3 (by omega)).cell hj
    have hlen2 : es2.flatten.length = m * i.size := by rw [hfl2, r1]
    have newok : ∀ (cap : Nat), n + m ≤ cap → (⟨.slice (some ⟨w.heap.size, 0, none⟩) (n + m) cap, i.size, es ++ es2⟩ : Chunk).ok (w.drew.alloc (.cells (es.flatten.toArray ++ es2.flatten.toArray ++ Builtin.zeroCells z.cells (cap - (n + m))) e)) true := by
      intro cap hcap
      have hnl : n = es.length := by
        cases a with
        | none => obtain ⟨f1, _, f3⟩ := p2; subst f3; simpa using f1
        | some ad => exact p2.1
      refine new_slice_ok (w := w.drew) p0 hall (by simp [hnl, r1]) hcap ?_ ?_
      · have hz2 : (Builtin.zeroCells z.cells (cap - (n + m))).size = (cap - (n + m)) * i.size := by rw [size_zeroCells, hzl]
        have h4 : cap = es.length + es2.length + (cap - (n + m)) := by omega
        have h5 : cap * i.size = es.length * i.size + es2.length * i.size + (cap - (n + m)) * i.size := by rw [← Nat.add_mul, ← Nat.add_mul, ← h4]
        simp only [Array.size_append, List.size_toArray, hz2, hfl, hfl2]
        omega
      · intro j v hj
        rw [List.flatten_append] at hj
        have hjl := (List.getElem?_eq_some_iff.1 hj).1
        rw [Array.getElem?_append_left (by simpa using hjl)]
        simpa using hj
    have hk1 : ∀ (cap : Nat) (bb : Nat), bb < w.heap.size → (w.drew.alloc (.cells (es.flatten.toArray ++ es2.flatten.toArray ++ Builtin.zeroCells z.cells (cap - (n + m))) e)).heap[bb]? = w.heap[bb]? := fun cap bb hbb => alloc_old (w := w.drew) bb hbb
    cases a with
    | none =>
      obtain ⟨e1, e2, e3⟩ := p2
      subst e1 e2 e3
      by_cases hm0 : m = 0
      · subst hm0
        have : es2 = [] := List.eq_nil_of_length_eq_zero r1.symm
        subst this
        refine hfin none 0 w ?_ ⟨p0, by simp, by simp⟩ ⟨rfl, rfl, rfl⟩ (Nat.le_refl _) (fun _ _ _ => rfl) (fun b hb _ => by simp [Chunk.blk, blkOf] at hb)
        simp [Builtin.append_, run_underlying ht, sizeOf, typeInfo, hi, Builtin.lenOf, Builtin.firstCells, loadCells, loadCellsFrom]
      · have hr := run_append_nil (P := P) w t o.type e i z ht hi hz bd m c2 es2.flatten hlen2 hnews (by omega) (by omega) (by simp only [Nat.zero_add] at hb; omega)
        have hn := newok (grownCap w m 0 e) (by have := grownCap_ge w m 0 e; omega)
        simp only [Nat.zero_add, List.flatten_nil, Array.empty_append, List.nil_append] at hn
        refine hfin _ _ (w.drew.alloc (.cells (es2.flatten.toArray ++ Builtin.zeroCells z.cells (grownCap w m 0 e - m)) e)) (by simpa using hr) (by simpa using hn) ⟨rfl, rfl, rfl⟩ (by simp) (fun b hb _ => ?_) (fun b hb hlt => ?_)
        · exact alloc_old (w := w.drew) b hb
        · simp only [Chunk.blk, blkOf] at hb
          split at hb
          · cases hb
          · simp only [Option.some.injEq] at hb; omega
    | some ad =>
      obtain ⟨f1, f2, f3⟩ := p2
      by_cases hroom : n + m ≤ c
      · by_cases hc0 : c = 0
        · subst hc0
          have hn0 : n = 0 := by omega
          have hm0 : m = 0 := by omega
          subst hn0 hm0
          have he1 : es = [] := List.eq_nil_of_length_eq_zero f1.symm
          have he2 : es2 = [] := List.eq_nil_of_length_eq_zero r1.symm
          subst he1 he2
          refine hfin (some ad) 0 w ?_ ⟨p0, by simp, rfl, Nat.le_refl _, fun h => by omega⟩ ⟨rfl, rfl, rfl⟩ (Nat.le_refl _) (fun _ _ _ => rfl) (fun b hb _ => hb)
          simp [Builtin.append_, run_underlying ht, sizeOf, typeInfo, hi, Builtin.lenOf, Builtin.firstCells, loadCells, loadCellsFrom, storeCells]
        have f3 := f3 (by omega)
        obtain ⟨w', hr, hrow', hsz', hoth, henv⟩ := run_app_room P w (ty := o.type) ht hi f3 (by rw [hfl, f1]) (Nat.mul_le_mul_right _ hroom) hlen2 hnews hone' hroom
        refine hfin _ _ w' hr ⟨p0, hall, ?_⟩ henv (by omega) (fun b _ hb => hoth b (fun e => hb (by simp only [Chunk.blk, blkOf]; rw [if_neg hc0, e]))) (fun b hb _ => hb)
        exact ⟨by simp [f1, r1], hroom, fun _ => by rw [List.flatten_append]; exact hrow'⟩
      · have hr := run_append_grow (P := P) w t o.type e i z ht hi hz ad n c es.flatten (by rw [hfl, f1]) (fun j v hj => by
          have hjl := (List.getElem?_eq_some_iff.1 hj).1
          rw [hfl] at hjl
          have : 0 < es.length := by
            rcases Nat.eq_zero_or_pos es.length with h | h
            · rw [h] at hjl; omega
            · exact h
          exact (f3 (by omega)).cell hj) bd m c2 es2.flatten hlen2 hnews (by omega) (by omega) (growslice_fits (by omega) hb)
        refine hfin _ _ _ hr (newok _ (grownCap_ge w (n + m) c e)) ⟨rfl, rfl, rfl⟩ (by simp) (fun b hb _ => hk1 _ b hb) (fun b hb hlt => ?_)
        simp only [Chunk.blk, blkOf] at hb
        split at hb
        · cases hb
        · simp only [Option.some.injEq] at hb; omega

end
end Go.Proofs.YtpfijnklnljccaaDoor

namespace Go.Proofs.YtpfijnklnljccaaDoor
open Go

section
variable {P : Program} {ops : Array Oper} {Q : Exit → Act → World → Prop} {md : Region.Mode} {S : World → Prop} {fins : List Nat}

/-- Whatever order is picked from here on; `S` holds behind every operation that is not one of the last ones. -/
def wpAnyF (P : Program) (md : Region.Mode) (ops : Array Oper) (Q : Exit → Act → World → Prop) (S : World → Prop) (fins : List Nat) : Nat → Array Bool → Act → World → Prop
  | 0, listed, a, w => Region.ready md ops listed = [] ∧ Q .normal a w
  | fuel + 1, listed, a, w =>
    (Region.ready md ops listed = [] → Q .normal a w) ∧
    ∀ i ∈ Region.ready md ops listed, wpOp P ops Q i (fun a' w' => (i ∉ fins → S w') ∧ wpAnyF P md ops Q S fins fuel (listed.setIfInBounds i true) a' w') a w

theorem wpAny_of_F : ∀ (fuel : Nat) (listed : Array Bool) (a : Act) (w : World), wpAnyF P md ops Q S fins fuel listed a w → wpAny P md ops Q fuel listed a w
  | 0, _, _, _, h => h
  | fuel + 1, _, _, _, h => ⟨h.1, fun i hi => wpOp_mono (fun a' w' h' => wpAny_of_F fuel _ a' w' h'.2) (h.2 i hi)⟩

/-- An operation cannot come up as long as `i` has not. -/
def blk (md : Region.Mode) (ops : Array Oper) (i : Nat) : Nat → Array Bool → Nat → Bool
  | 0, _, _ => false
  | n + 1, listed, j => match ops[j]? with
    | some o => o.after.any fun e => Region.binds md e && (e.on == i || (!listed.getD e.on true && blk md ops i n listed e.on))
    | none => false
theorem blk_not {i n j : Nat} {listed : Array Bool} (h : blk md ops i n listed j = true) (hi : i ∈ Region.ready md ops listed) : j ∉ Region.ready md ops listed := by
  intro hj
  cases n with
  | zero => cases h
  | succ n =>
    obtain ⟨_, o, ho, hall⟩ := mem_ready.1 hj
    simp only [blk, ho, Array.any_eq_true, Bool.and_eq_true, Bool.or_eq_true, beq_iff_eq, Bool.not_eq_true'] at h
    obtain ⟨k, hk, hb, h⟩ := h
    have h1 := hall _ (Array.getElem_mem hk) hb
    rcases h with h | h
    · have h0 := (mem_ready.1 hi).1
      rw [h] at h1
      rcases Nat.lt_or_ge i listed.size with h' | h'
      · simp [h'] at h0 h1; rw [h0] at h1; cases h1
      · simp [Array.getElem?_eq_none h'] at h1
    · have h0 := h.1
      rcases Nat.lt_or_ge (o.after[k]).on listed.size with h' | h'
      · simp [h'] at h0 h1; rw [h0] at h1; cases h1
      · simp [Array.getElem?_eq_none h'] at h1
theorem blk_set {i j : Nat} {listed : Array Bool} (hi : i ∈ Region.ready md ops listed) (hj : j ∈ Region.ready md ops listed) : ∀ {n k : Nat}, blk md ops i n listed k = true → blk md ops i n (listed.setIfInBounds j true) k = true
  | 0, _, h => by cases h
  | n + 1, k, h => by
    simp only [blk] at h ⊢
    split at h
    · rename_i o ho
      simp only [Array.any_eq_true, Bool.and_eq_true, Bool.or_eq_true, beq_iff_eq, Bool.not_eq_true'] at h ⊢
      obtain ⟨q, hq, hb, h⟩ := h
      refine ⟨q, hq, hb, ?_⟩
      rcases h with h | ⟨h1, h2⟩
      · exact .inl h
      · have hne : j ≠ (o.after[q]).on := fun e => blk_not h2 hi (e ▸ hj)
        exact .inr ⟨by rw [getD_set_ne true hne]; exact h1, blk_set hi hj h2⟩
    · cases h
def blkN : Nat := 24

theorem wpAnyF_first {i : Nat} {oi : Oper} {v : Value} (hi : ops[i]? = some oi) (hsel : ∀ (j : Nat) (o : Oper) cs b, ops[j]? = some o → o.op ≠ .select cs b)
    (hQ : ∀ c a w, Q (.panic c) (a.put oi.dst v) w → Q (.panic c) a w) :
    ∀ (fuel : Nat) (listed : Array Bool) (a : Act) (w : World),
      (∀ j oj, ops[j]? = some oj → j ≠ i → listed.getD j true = false → (∀ e ∈ oj.after, Region.binds md e = true → e.on ≠ i) → oi.apart ops oj = true ∧ (j ∉ fins ∨ blk md ops i blkN listed j = true)) →
      i ∈ Region.ready md ops listed → YieldsIf P ops S oi v a → S w →
      wpAnyF P md ops Q S fins fuel (listed.setIfInBounds i true) (a.put oi.dst v) w → wpAnyF P md ops Q S fins (fuel + 1) listed a w := by
  intro fuel
  induction fuel with
  | zero =>
    intro listed a w _ hr hy hS H
    refine ⟨fun h => (by rw [h] at hr; cases hr), fun j hj => ?_⟩
    by_cases hji : j = i
    · subst hji; exact hy.wpOp hi hS ⟨fun _ => hS, H⟩
    · have := ready_mono hj hji
      rw [H.1] at this
      cases this
  | succ fuel ih =>
    intro listed a w hfree hr hy hS H
    refine ⟨fun h => (by rw [h] at hr; cases hr), fun j hj => ?_⟩
    by_cases hji : j = i
    · subst hji; exact hy.wpOp hi hS ⟨fun _ => hS, H⟩
    · have h1 := H.2 j (ready_mono hj hji)
      obtain ⟨hjun, oj, hoj, hall⟩ := mem_ready.1 hj
      have hnot : ∀ e ∈ oj.after, Region.binds md e = true → e.on ≠ i := fun e he hb heq => by
        have h1 := hall e he hb
        have h0 := (mem_ready.1 hr).1
        rw [heq] at h1
        rcases Nat.lt_or_ge i listed.size with h' | h'
        · simp [h'] at h0 h1; rw [h0] at h1; cases h1
        · simp [Array.getElem?_eq_none h'] at h1
      obtain ⟨hap, hfin⟩ := hfree j oj hoj hji hjun hnot
      have hfin := hfin.resolve_right (fun hb => blk_not hb hr hj)
      have h2 := wpOp_putIf hoj hap (fun cs b => hsel i oi cs b hi) (fun cs b => hsel j oj cs b hoj) hQ hy h1
      have hfree' : ∀ k ok, ops[k]? = some ok → k ≠ i → (listed.setIfInBounds j true).getD k true = false →
          (∀ e ∈ ok.after, Region.binds md e = true → e.on ≠ i) → oi.apart ops ok = true ∧ (k ∉ fins ∨ blk md ops i blkN (listed.setIfInBounds j true) k = true) := fun k ok hk hki hun hno => by
        have hh := hfree k ok hk hki (by
          by_cases hjk : j = k
          · subst hjk; exact hjun
          · rw [getD_set_ne true hjk] at hun; exact hun) hno
        exact ⟨hh.1, hh.2.imp id (blk_set hr hj)⟩
      refine wpOp_mono (fun a' w' h3 => ⟨h3.2.1, ih (listed.setIfInBounds j true) a' w' hfree' (ready_mono hr (Ne.symm hji)) h3.1 (h3.2.1 hfin) ?_⟩) h2
      rw [Array.setIfInBounds_comm _ _ hji]
      exact h3.2.2

/-- The order in which a region is walked: an index, and whether the operation is taken first although others could come up (true), or it alone can come up (false). -/
def finFree (md : Region.Mode) (ops : Array Oper) (listed : Array Bool) (fins : List Nat) (i : Nat) : Bool :=
  fins.all fun j => j == i || listed.getD j true || blk md ops i blkN listed j || (ops[j]?).isNone

end

theorem yielded_of {E : Env} {ops : Array Oper} {sl : Slots} {a : Act} {j d : Nat} {b : Bool} (hk : Kn a E.N sl) (hj : (ops[j]?).bind (·.dst) = some d) (hb : kev E.N sl (.tmp d) = some (.bool b)) :
    yielded ops a.tmps j = some b := by
  have hv := hk.ev hb
  have hlt : d < a.tmps.size := by
    rw [hk.size]
    simp only [kev] at hb
    split at hb
    · rename_i e; simpa [Nat.blt_eq] using e
    · cases hb
  simp only [yielded, hj, Option.bind_some]
  have : a.tmps[d]? = some (.bool b) := by
    simp only [Act.eval] at hv
    rw [Array.getElem?_eq_getElem hlt]
    simpa [Array.getD, hlt] using hv
  rw [this]

theorem St.drew {w : World} {ro ch : List Chunk} (h : St w ro ch) : St { w with drawn := w.drawn + 1 } ro ch :=
  ⟨fun c hc => (h.rok c hc).same (fun _ _ => rfl), fun c hc => (h.wok c hc).same (fun _ _ => rfl), h.pw, h.rs⟩

theorem bne_both {b want : Bool} (h : b = want) (g : b = !want) : False := by subst h; cases b <;> cases g

theorem bne_both' {b want : Bool} (h : b = !want) (g : b = want) : False := bne_both g h

end Go.Proofs.YtpfijnklnljccaaDoor

namespace Go.Proofs.YtpfijnklnljccaaDoor
open Go

section
variable {n : KPred} {Q : Exit → KPred} {sl : Slots} {ch : List Chunk} {id id' : Nat}
theorem kn_then (h : n sl ch) : KThen n Q .normal sl ch := h
theorem kn_block (h : Q .normal sl ch) : KBlock id Q .normal sl ch := h
theorem ke_then (h : Q (.exit id) sl ch) : KThen n Q (.exit id) sl ch := h
theorem ke_block (h : Q .normal sl ch) : KBlock id Q (.exit id) sl ch := by simp only [KBlock, if_true]; exact h
theorem kr_then (h : Q .ret sl ch) : KThen n Q .ret sl ch := h
theorem kr_block (h : Q .ret sl ch) : KBlock id Q .ret sl ch := h
end

theorem kwp_cond_t {E : Env} {c : Operand} {x y : Code} {b : Bool} {Q : Exit → KPred} {sl : Slots} {ch : List Chunk}
    (hc : kev E.N sl c = some (.bool b)) (hb : b = true) (h : KWp E x Q sl ch) : KWp E (.cond c x y) Q sl ch :=
  kwp_cond hc (fun _ => h) (fun h2 => by rw [hb] at h2; cases h2)

theorem kops_split {E : Env} {ops : Array Oper} {Q : Exit → KPred} {l : List Oper} {sl : Slots} {ch : List Chunk} (t : Nat) {b : Bool} (_hb : kev E.N sl (.tmp t) = some (.bool b))
    (ht : b = true → KOps E ops Q l sl ch) (hf : b = false → KOps E ops Q l sl ch) : KOps E ops Q l sl ch := by
  cases b
  · exact hf rfl
  · exact ht rfl

section
variable {E : Env} {ops : Array Oper} {Q : Exit → KPred} {o : Oper} {l : List Oper} {sl : Slots} {ch : List Chunk} {j d : Nat} {want b : Bool} {v : Value}
theorem kops_d (hg : o.guard = none) (hd : o.dst = some d) (h : OpV E.P E.N E.ro ch o sl v) (hR : KOps E ops Q l ((d, v) :: sl) ch) : KOps E ops Q (o :: l) sl ch :=
  kops_v hg h (by rw [hd]; exact hR)

theorem kops_gv (hg : o.guard = some (j, want)) (hj : (ops[j]?).bind (·.dst) = some d) (hb : kev E.N sl (.tmp d) = some (.bool b)) (hbw : b = want)
    (hv : OpV E.P E.N E.ro ch o sl v) (h : KOps E ops Q l (putS o.dst v sl) ch) : KOps E ops Q (o :: l) sl ch :=
  kops_guard hg hj hb (fun _ => opk_of_opv hv h) (fun h2 => (bne_both hbw h2).elim)

theorem kops_gd {d' : Nat} (hg : o.guard = some (j, want)) (hj : (ops[j]?).bind (·.dst) = some d) (hb : kev E.N sl (.tmp d) = some (.bool b)) (hbw : b = want) (hd : o.dst = some d')
    (hv : OpV E.P E.N E.ro ch o sl v) (h : KOps E ops Q l ((d', v) :: sl) ch) : KOps E ops Q (o :: l) sl ch :=
  kops_gv hg hj hb hbw hv (by rw [hd]; exact h)

theorem kops_gk (hg : o.guard = some (j, want)) (hj : (ops[j]?).bind (·.dst) = some d) (hb : kev E.N sl (.tmp d) = some (.bool b)) (hbw : b = want)
    (h : OpK E.P E.N E.ro o sl ch (KOps E ops Q l)) : KOps E ops Q (o :: l) sl ch :=
  kops_guard hg hj hb (fun _ => h) (fun h2 => (bne_both hbw h2).elim)

theorem kops_skip (hg : o.guard = some (j, want)) (hj : (ops[j]?).bind (·.dst) = some d) (hb : kev E.N sl (.tmp d) = some (.bool b)) (hbw : b = !want)
    (h : KOps E ops Q l (putS o.dst undef sl) ch) : KOps E ops Q (o :: l) sl ch :=
  kops_guard hg hj hb (fun h2 => (bne_both' hbw h2).elim) (fun _ => h)
end

/-- What a test tells, in plain words. -/
class Nm (p : Prop) (q : outParam Prop) : Prop where
  go : p → q
instance (priority := low) nm_id {b c : Bool} : Nm (b = c) (b = c) := ⟨id⟩
instance nm_dt {p : Prop} {i : Decidable p} : Nm (@decide p i = true) p := ⟨of_decide_eq_true⟩
instance nm_df {p : Prop} {i : Decidable p} : Nm (@decide p i = false) (¬ p) := ⟨of_decide_eq_false⟩
instance nm_et {x y : Int} : Nm ((x == y) = true) (x = y) := ⟨eq_of_beq⟩
instance nm_ef {x y : Int} : Nm ((x == y) = false) (¬ x = y) := ⟨fun h => by simpa using h⟩
instance nm_nt' {x y : Int} : Nm ((x != y) = true) (¬ x = y) := ⟨fun h => by simpa using h⟩
instance nm_nf' {x y : Int} : Nm ((x != y) = false) (x = y) := ⟨fun h => by simpa using h⟩
instance nm_t {b : Bool} {q : Prop} [i : Nm (b = false) q] : Nm ((!b) = true) q := ⟨fun h => i.go (by simpa using h)⟩
instance nm_f {b : Bool} {q : Prop} [i : Nm (b = true) q] : Nm ((!b) = false) q := ⟨fun h => i.go (by simpa using h)⟩
theorem Knows.cons2 {s2 s1 : Slots} {t : Nat} {v v' : Value} (h : get s1 t = some v') (e : v' = v) (g : Knows s2 s1) : Knows ((t, v) :: s2) s1 := by
  subst e; exact Knows.cons h g

theorem Sub.nil (c : List Chunk) : Sub [] c := ⟨c, by simp⟩

theorem Sub.cons {c1 c2 r : List Chunk} {c : Chunk} (hp : Pick c1 c r) (g : Sub c2 r) : Sub (c :: c2) c1 := by
  obtain ⟨s, h⟩ := g
  exact ⟨s, hp.perm.trans (by simpa using h.cons c)⟩

theorem Sub.chunk {c1 c2 r : List Chunk} {h : Value} {sz : Nat} {es es' : List (List Value)} (hp : Pick c1 ⟨h, sz, es'⟩ r) (e : es' = es) (g : Sub c2 r) : Sub (⟨h, sz, es⟩ :: c2) c1 := by
  subst e; exact Sub.cons hp g

theorem perm_nil (c : List Chunk) : c.Perm ([] ++ c) := .refl _

theorem perm_cons {c1 r rest fp : List Chunk} {c : Chunk} (hp : Pick c1 c r) (g : r.Perm (fp ++ rest)) : c1.Perm ((c :: fp) ++ rest) := by
  exact hp.perm.trans (g.cons c)

/-- A chunk whose elements are spelled otherwise. -/
theorem Pick.es {l r : List Chunk} {h : Value} {sz : Nat} {es es' : List (List Value)} (p : Pick l ⟨h, sz, es'⟩ r) (e : es' = es) : Pick l ⟨h, sz, es⟩ r := by subst e; exact p

section
variable {E : Env} {c : Code} {Q : Exit → KPred} {sl : Slots} {ch : List Chunk}

/-- The relation at a loop's head, for one, two, three or four things that turn. -/
structure Hd (S : Slots) (C : List Chunk) (p : Prop) (sl : Slots) (ch : List Chunk) : Prop where
  p : p
  s : Knows S sl
  c : Sub C ch

end

theorem triple_start {P : Program} {f : FuncId} {fn : Func} {c : Code} {vs : List Value} {ro rw : List Chunk} {R : Value → List Chunk → Prop} (N : Nat)
    (hf : P.funcs[f]? = some fn) (hN : fn.ntmps = N) (hb : fn.body = some c) (hn : Nat.ble vs.length N = true)
    (h : ∀ w0, KWp ⟨P, N, ro, w0, rw⟩ c (KBody fn P ro R) (argSlots 0 vs) rw) : Triple P f vs ro rw R := by
  subst hN
  exact triple_intro hf hb hn h

section
variable {fn : Func} {P : Program} {ro ch : List Chunk} {R : Value → List Chunk → Prop} {sl : Slots}
/-- One result in a slot. -/
theorem kret1 {t : Nat} {v : Value} (ch' : List Chunk) (hr : fn.results = #[.tmp t]) (hv : kev fn.ntmps sl (.tmp t) = some v) (hR : R v ch') (hs : Sub ch' ch) : KBody fn P ro R .ret sl ch :=
  ⟨v, ch', fun a w hk _ => by
    have := hk.ev hv
    simp only [Act.eval, Array.getD_eq_getD_getElem?] at this
    simp [results, hr, this], hR, hs⟩

theorem kret2 {t u : Nat} {v x : Value} (ch' : List Chunk) (hr : fn.results = #[.tmp t, .tmp u]) (hv : kev fn.ntmps sl (.tmp t) = some v) (hx : kev fn.ntmps sl (.tmp u) = some x) (hR : R (.tuple #[v, x]) ch') (hs : Sub ch' ch) : KBody fn P ro R .ret sl ch :=
  ⟨_, ch', fun a w hk _ => by
    have h1 := hk.ev hv
    have h2 := hk.ev hx
    simp only [Act.eval, Array.getD_eq_getD_getElem?] at h1 h2
    simp [results, hr, h1, h2], hR, hs⟩

theorem kret3 {t u s : Nat} {v x y : Value} (ch' : List Chunk) (hr : fn.results = #[.tmp t, .tmp u, .tmp s]) (hv : kev fn.ntmps sl (.tmp t) = some v) (hx : kev fn.ntmps sl (.tmp u) = some x) (hy : kev fn.ntmps sl (.tmp s) = some y) (hR : R (.tuple #[v, x, y]) ch') (hs : Sub ch' ch) : KBody fn P ro R .ret sl ch :=
  ⟨_, ch', fun a w hk _ => by
    have h1 := hk.ev hv
    have h2 := hk.ev hx
    have h3 := hk.ev hy
    simp only [Act.eval, Array.getD_eq_getD_getElem?] at h1 h2 h3
    simp [results, hr, h1, h2, h3], hR, hs⟩

theorem kret0 (ch' : List Chunk) (hr : fn.results = #[]) (hR : R (.tuple #[]) ch') (hs : Sub ch' ch) : KBody fn P ro R .ret sl ch :=
  ⟨_, ch', fun a w _ _ => by simp [results, hr], hR, hs⟩

theorem kend0 (ch' : List Chunk) (hr : fn.results = #[]) (hR : R (.tuple #[]) ch') (hs : Sub ch' ch) : KBody fn P ro R .normal sl ch :=
  ⟨_, ch', fun a w _ _ => by simp [results, hr], hR, hs⟩

theorem cell_run {t : Nat} {ty : TypeId} {p : Addr} {sz : Nat} {e : List Value} (ht : kev fn.ntmps sl (.tmp t) = some (.pointer (some p))) (hag : ∀ w, (isAgg ty).run P w = .ok true w) (hsz : ∀ w, (sizeOf ty).run P w = .ok sz w)
    (hm : (⟨.pointer (some p), sz, [e]⟩ : Chunk) ∈ ro ++ ch) : ∀ a w, Kn a fn.ntmps sl → St w ro ch → (do loadVar ty (← asAddr (a.tmps.getD t undef)) : Sem Value).run P w = .ok (.agg e.toArray) w := by
  intro a w hk hs
  have h1 := hk.ev ht
  simp only [Act.eval] at h1
  have hok := mem_ok hs hm
  have hl := run_loadCells_list (P := P) w p e (fun j v hj => by
    have := hok.2.2
    simp only [List.flatten_cons, List.flatten_nil, List.append_nil] at this
    exact this.cell hj)
  have hlen : e.length = sz := hok.2.1 e (by simp)
  rw [hlen] at hl
  rw [h1]
  simp [asAddr, loadVar, hag, hsz, hl]

/-- One result, a struct in a variable. -/
theorem kretc {t : Nat} {ty : TypeId} {p : Addr} {sz : Nat} {e : List Value} (ch' : List Chunk) (hr : fn.results = #[.cell t ty]) (ht : kev fn.ntmps sl (.tmp t) = some (.pointer (some p))) (hag : ∀ w, (isAgg ty).run P w = .ok true w) (hsz : ∀ w, (sizeOf ty).run P w = .ok sz w)
    (hm : (⟨.pointer (some p), sz, [e]⟩ : Chunk) ∈ ro ++ ch) (hR : R (.agg e.toArray) ch') (hs : Sub ch' ch) : KBody fn P ro R .ret sl ch :=
  ⟨_, ch', fun a w hk hst => by
    have := cell_run ht hag hsz hm a w hk hst
    simp only [Array.getD_eq_getD_getElem?, Sem.run_bind] at this
    simp [results, hr, this], hR, hs⟩

end

theorem slice_len {w : World} {rw : Bool} {a : Option Addr} {n c sz : Nat} {es : List (List Value)} (h : (⟨.slice a n c, sz, es⟩ : Chunk).ok w rw) : n = es.length := by
  obtain ⟨_, _, h2⟩ := h
  cases a with
  | none => obtain ⟨h1, _, h3⟩ := h2; simp only at h1 h3; rw [h3, h1]; rfl
  | some ad => exact h2.1

theorem kwp_len {E : Env} {c : Code} {Q : Exit → KPred} {sl : Slots} {ch : List Chunk} {a : Option Addr} {n cap sz : Nat} {es : List (List Value)} (hm : (⟨.slice a n cap, sz, es⟩ : Chunk) ∈ E.ro ++ ch)
    (h : n = es.length → KWp E c Q sl ch) : KWp E c Q sl ch :=
  fun a w hi => h (slice_len (mem_ok hi.st hm)) a w hi

/-- Fields of a struct: where they lie. -/
def FieldAt (P : Program) (s : TypeId) (f off : Nat) : Prop := ∀ (a : Addr) (w : World), (Instr.fieldAt s (.pointer (some a)) f).run P w = .ok (.pointer (some (a.add off))) w

section
variable {P : Program} {N : Nat} {ro : List Chunk} {o : Oper} {sl : Slots} {ch : List Chunk}

theorem opv_fa {s : TypeId} {x : Operand} {f off : Nat} {h : Value} {sz i k : Nat} {es : List (List Value)}
    (ho : o.op = .fieldAddr s x f) (hx : kev N sl x = some (adr h sz i k)) (hfa : FieldAt P s f off) (hm : (⟨h, sz, es⟩ : Chunk) ∈ ro ++ ch) (hi : i < es.length) : OpV P N ro ch o sl (adr h sz i (k + off)) := by
  intro a w hkn hs
  have hok := mem_ok hs hm
  obtain ⟨ad, m, hrow, _, had, _⟩ := hok.row (show 0 < es.length by omega)
  have hev := hkn.ev hx
  simp only at had
  rw [had] at hev
  rw [had]
  unfold execOp
  simp [ho, hev, hfa (ad.add (i * sz + k)) w, add_add hrow.1, Nat.add_assoc]

theorem opv_fab {s : TypeId} {x : Operand} {f off : Nat} {p : Addr} {sz : Nat} {e : List Value}
    (ho : o.op = .fieldAddr s x f) (hx : kev N sl x = some (.pointer (some p))) (hfa : FieldAt P s f off) (hm : (⟨.pointer (some p), sz, [e]⟩ : Chunk) ∈ ro ++ ch) : OpV P N ro ch o sl (adr (.pointer (some p)) sz 0 off) := by
  have h := opv_fa (h := .pointer (some p)) (i := 0) (k := 0) (es := [e]) ho (by rw [adr_box]; exact hx) hfa hm (by simp)
  simpa using h

/-- An element's address, its index a natural number. -/
theorem opv_ia {t e : TypeId} {x ix : Operand} {a : Option Addr} {n c sz : Nat} {k : IntKind} {i : Int} {j : Nat} {es : List (List Value)}
    (ho : o.op = .indexAddr t x ix) (hx : kev N sl x = some (.slice a n c)) (hi : kev N sl ix = some (.int k i))
    (hu : ∀ w, (underlying t).run P w = .ok (.slice e) w) (hsz : ∀ w, (sizeOf e).run P w = .ok sz w)
    (hm : (⟨.slice a n c, sz, es⟩ : Chunk) ∈ ro ++ ch) (hj : i = (j : Int)) (hn : j < es.length) : OpV P N ro ch o sl (adr (.slice a n c) sz j 0) := by
  have h := opv_indexAddr ho hx hi hu hsz hm (by omega) (by omega)
  have : i.toNat = j := by omega
  rw [this] at h
  exact h

theorem opv_build1 {t : TypeId} {ps : Array (Nat × Operand)} {z : Value} {fs : Array Field} {places : Array (Nat × Nat)} (vs : List (Nat × Value)) (out : List Value) (ho : o.op = .build t ps)
    (hx : ps.toList.map (fun p => (p.1, kev N sl p.2)) = vs.map (fun p => (p.1, some p.2))) (hz : ∀ w, (zeroValue t).run P w = .ok z w) (hu : ∀ w, (underlying t).run P w = .ok (.struct fs) w)
    (hpl : ∀ w, (fs.mapM (fun (f : Field) => (do pure (f.offset, ← sizeOf f.type) : Sem (Nat × Nat)))).run P w = .ok places w) (hf : Instr.fill (places[·]?) z.cells vs = some out.toArray) : OpV P N ro ch o sl (.agg out.toArray) :=
  opv_build ho hx hz hu hpl hf

/-- A test of two structs, cell by cell. -/
theorem opk_box' {R : KPred} {t : TypeId} {x : Operand} {v : Value} {e : List Value} (sz : Nat) (ho : o.op = .box t x) (hx : kev N sl x = some v) (he : v.cells.toList = e) (hl : e.length = sz) (hp : 0 < sz)
    (hR : ∀ p : Addr, R (putS o.dst (.pointer (some p)) sl) (⟨.pointer (some p), sz, [e]⟩ :: ch)) : OpK P N ro o sl ch R := by
  subst hl
  exact opk_box ho hx he hp hR

theorem opk_alloc' {R : KPred} {t : TypeId} {z : Value} {e : List Value} (sz : Nat) (ho : o.op = .alloc t) (hz : ∀ w, (zeroValue t).run P w = .ok z w) (he : z.cells.toList = e) (hl : e.length = sz) (hp : 0 < sz)
    (hR : ∀ p : Addr, R (putS o.dst (.pointer (some p)) sl) (⟨.pointer (some p), sz, [e]⟩ :: ch)) : OpK P N ro o sl ch R := by
  subst hl
  exact opk_alloc ho hz he hp hR

end
end Go.Proofs.YtpfijnklnljccaaDoor

namespace Go.Proofs.YtpfijnklnljccaaDoor
open Go
set_option linter.unusedVariables false
set_option linter.unusedSimpArgs false

/-- The orders of a region: an operation that only reads, one that alone comes up, or two or three of which each may come up. -/
inductive OT where
  | stop : OT
  | quiet (i : Nat) (t : OT) : OT
  | one (i : Nat) (t : OT) : OT
  | two (i : Nat) (t : OT) (j : Nat) (u : OT) : OT
  | three (i : Nat) (t : OT) (j : Nat) (u : OT) (k : Nat) (v : OT) : OT

def OT.len : OT → Nat
  | .stop => 0
  | .quiet _ t => t.len + 1
  | .one _ t => t.len + 1
  | .two _ t _ _ => t.len + 1
  | .three _ t _ _ _ _ => t.len + 1

def OT.noQ : OT → Bool
  | .stop => true
  | .quiet _ _ => false
  | .one _ t => t.noQ
  | .two _ t _ u => t.noQ && u.noQ
  | .three _ t _ u _ v => t.noQ && (u.noQ && v.noQ)

def ordT (md : Region.Mode) (ops : Array Oper) (fins : List Nat) : OT → Array Bool → Bool
  | .stop, listed => Region.ready md ops listed == []
  | .quiet i t, listed => (Region.ready md ops listed).contains i && Region.free md ops listed i && finFree md ops listed fins i && ordT md ops fins t (listed.setIfInBounds i true)
  | .one i t, listed => Region.ready md ops listed == [i] && ordT md ops fins t (listed.setIfInBounds i true)
  | .two i t j u, listed => Region.ready md ops listed == [i, j] && (t.len == u.len) && ordT md ops fins t (listed.setIfInBounds i true) && ordT md ops fins u (listed.setIfInBounds j true)
  | .three i t j u k v, listed => Region.ready md ops listed == [i, j, k] && (t.len == u.len) && (t.len == v.len) && ordT md ops fins t (listed.setIfInBounds i true) && ordT md ops fins u (listed.setIfInBounds j true) && ordT md ops fins v (listed.setIfInBounds k true)

def HeldT (fins : List Nat) (cq : List Chunk) (i : Nat) (nq : Bool) (ch : List Chunk) : Prop :=
  Sub cq ch ∨ (i ∈ fins ∧ nq = true)

def KLoud (E : Env) (ops : Array Oper) (fins : List Nat) (cq : List Chunk) (i : Nat) (nq : Bool) (R : KPred) : KPred := fun sl ch => ∃ oi, ops[i]? = some oi ∧
      ((oi.guard = none ∧ OpK E.P E.N E.ro oi sl ch (fun sl' ch' => HeldT fins cq i nq ch' ∧ R sl' ch')) ∨
       (∃ j want d b, oi.guard = some (j, want) ∧ (ops[j]?).bind (·.dst) = some d ∧ kev E.N sl (.tmp d) = some (.bool b) ∧
          (b = want → OpK E.P E.N E.ro oi sl ch (fun sl' ch' => HeldT fins cq i nq ch' ∧ R sl' ch')) ∧
          (b = (!want) → HeldT fins cq i nq ch ∧ R (putS oi.dst undef sl) ch)) ∨
       (∃ j want d, oi.guard = some (j, want) ∧ (ops[j]?).bind (·.dst) = some d ∧ kev E.N sl (.tmp d) = some undef ∧ HeldT fins cq i nq ch ∧ R (putS oi.dst undef sl) ch))

def KTree (E : Env) (ops : Array Oper) (fins : List Nat) (cq : List Chunk) (Q : Exit → KPred) : OT → KPred
  | .stop, sl, ch => Q .normal sl ch
  | .quiet i t, sl, ch => ∃ oi, ops[i]? = some oi ∧
      ((oi.guard = none ∧ ∃ v, OpV E.P E.N E.ro cq oi sl v ∧ KTree E ops fins cq Q t (putS oi.dst v sl) ch) ∨
       (∃ j want d b, oi.guard = some (j, want) ∧ (ops[j]?).bind (·.dst) = some d ∧ kev E.N sl (.tmp d) = some (.bool b) ∧
          (b = want → ∃ v, OpV E.P E.N E.ro cq oi sl v ∧ KTree E ops fins cq Q t (putS oi.dst v sl) ch) ∧
          (b = (!want) → KTree E ops fins cq Q t (putS oi.dst undef sl) ch)) ∨
       (∃ j want d, oi.guard = some (j, want) ∧ (ops[j]?).bind (·.dst) = some d ∧ kev E.N sl (.tmp d) = some undef ∧ KTree E ops fins cq Q t (putS oi.dst undef sl) ch))
  | .one i t, sl, ch => KLoud E ops fins cq i t.noQ (KTree E ops fins cq Q t) sl ch
  | .two i t j u, sl, ch => KLoud E ops fins cq i t.noQ (KTree E ops fins cq Q t) sl ch ∧ KLoud E ops fins cq j u.noQ (KTree E ops fins cq Q u) sl ch
  | .three i t j u k v, sl, ch => KLoud E ops fins cq i t.noQ (KTree E ops fins cq Q t) sl ch ∧ KLoud E ops fins cq j u.noQ (KTree E ops fins cq Q u) sl ch ∧ KLoud E ops fins cq k v.noQ (KTree E ops fins cq Q v) sl ch

/-- A guard that itself was passed over yields nothing. -/
theorem yielded_undef {E : Env} {ops : Array Oper} {sl : Slots} {a : Act} {j d : Nat} (hk : Kn a E.N sl) (hj : (ops[j]?).bind (·.dst) = some d) (hb : kev E.N sl (.tmp d) = some undef) : yielded ops a.tmps j = none := by
  have hv := hk.ev hb
  simp only [yielded, hj, Option.bind_some]
  simp only [Act.eval, Array.getD_eq_getD_getElem?] at hv
  cases h : a.tmps[d]? with
  | none => rfl
  | some x =>
    rw [h] at hv
    simp only [Option.getD_some] at hv
    subst hv
    rfl
theorem loud_sound {E : Env} {ops : Array Oper} {fins : List Nat} {cq : List Chunk} {Q : Exit → KPred} {i n : Nat} {nq : Bool} {R : KPred} {listed : Array Bool} {sl : Slots} {ch : List Chunk} {a : Act} {w : World}
    (go : ∀ (sl' : Slots) (ch' : List Chunk) (a' : Act) (w' : World), R sl' ch' → In E sl' ch' a' w' → (nq = false → Sub cq ch') → wpAnyF E.P .any ops (post E Q) (fun w => St w E.ro cq) fins n (listed.setIfInBounds i true) a' w')
    (h : KLoud E ops fins cq i nq R sl ch) (hi : In E sl ch a w) :
    wpOp E.P ops (post E Q) i (fun a' w' => (i ∉ fins → St w' E.ro cq) ∧ wpAnyF E.P .any ops (post E Q) (fun w => St w E.ro cq) fins n (listed.setIfInBounds i true) a' w') a w := by
  obtain ⟨oi, hoi, h⟩ := h
  have hnext : ∀ (sl' : Slots) (ch' : List Chunk) (a' : Act) (w' : World), HeldT fins cq i nq ch' → R sl' ch' → In E sl' ch' a' w' →
      (i ∉ fins → St w' E.ro cq) ∧ wpAnyF E.P .any ops (post E Q) (fun w => St w E.ro cq) fins n (listed.setIfInBounds i true) a' w' := by
    intro sl' ch' a' w' hh hk hi'
    refine ⟨fun hnf => ?_, go _ _ _ _ hk hi' (fun hany => ?_)⟩
    · rcases hh with h | h
      · exact hi'.st.sub h
      · exact absurd h.1 hnf
    · rcases hh with h | h
      · exact h
      · rw [h.2] at hany; cases hany
  unfold wpOp
  simp only [hoi]
  rcases h with ⟨hg, hk⟩ | ⟨j', want, d, b, hg, hj', hb, hy, hn⟩ | ⟨j', want, d, hg, hj', hb, h1, h2⟩
  · rw [if_pos (by simp [Region.wanted, hg])]
    exact .inl (hk a w hi.kn hi.st _ _ fun a' w' sl' ch' hR hkn hst hext => hnext _ _ _ _ hR.1 hR.2 ⟨hkn, hst, hi.ext.trans hext⟩)
  · have hyl := yielded_of hi.kn hj' hb
    by_cases e : b = want
    · rw [if_pos (by simp [Region.wanted, hg, hyl, e])]
      exact .inl (hy e a w hi.kn hi.st _ _ fun a' w' sl' ch' hR hkn hst hext => hnext _ _ _ _ hR.1 hR.2 ⟨hkn, hst, hi.ext.trans hext⟩)
    · rw [if_neg (by simp [Region.wanted, hg, hyl, e])]
      obtain ⟨h1, h2⟩ := hn (by cases b <;> cases want <;> simp_all)
      exact hnext _ _ _ _ h1 h2 ⟨hi.kn.put _ _, hi.st, hi.ext⟩
  · have hyl := yielded_undef hi.kn hj' hb
    rw [if_neg (by simp [Region.wanted, hg, hyl])]
    exact hnext _ _ _ _ h1 h2 ⟨hi.kn.put _ _, hi.st, hi.ext⟩

theorem ktree_sound {E : Env} {ops : Array Oper} {fins : List Nat} {cq : List Chunk} {Q : Exit → KPred} (hs : Region.noSelect ops = true) (hQ : ∀ c s h, ¬ Q (.panic c) s h) :
    ∀ (t : OT) (listed : Array Bool) (sl : Slots) (ch : List Chunk) (a : Act) (w : World), ordT .any ops fins t listed = true →
      KTree E ops fins cq Q t sl ch → In E sl ch a w → (t.noQ = false → Sub cq ch) → wpAnyF E.P .any ops (post E Q) (fun w => St w E.ro cq) fins t.len listed a w
  | .stop, listed, sl, ch, a, w, hB, h, hi, _ => ⟨by simpa [ordT] using hB, sl, ch, h, hi⟩
  | .quiet i t, listed, sl, ch, a, w, hB, h, hi, hcq => by
    simp only [ordT, Bool.and_eq_true] at hB
    obtain ⟨⟨⟨hr, hf⟩, hff⟩, hB'⟩ := hB
    obtain ⟨oi, hoi, h⟩ := h
    have hsub : Sub cq ch := hcq rfl
    have hQ' : ∀ v c a w, post E Q (.panic c) (a.put oi.dst v) w → post E Q (.panic c) a w := fun v c a w ⟨s, cc, q, _⟩ => (hQ _ _ _ q).elim
    have hS : St w E.ro cq := hi.st.sub hsub
    have hfree : ∀ j oj, ops[j]? = some oj → j ≠ i → listed.getD j true = false → (∀ e ∈ oj.after, Region.binds .any e = true → e.on ≠ i) → oi.apart ops oj = true ∧ (j ∉ fins ∨ blk .any ops i blkN listed j = true) := by
      intro j oj hj hne hun hno
      refine ⟨Region.free_spec hoi hf j oj hj hne hun hno, ?_⟩
      by_cases hjf : j ∈ fins
      · have := List.all_eq_true.1 hff j hjf
        simp only [hun, hj, Bool.or_eq_true, beq_iff_eq, Option.isNone_some, Bool.false_eq_true, or_false] at this
        exact .inr (this.resolve_left hne)
      · exact .inl hjf
    have key : ∀ v, YieldsIf E.P ops (fun w => St w E.ro cq) oi v a → KTree E ops fins cq Q t (putS oi.dst v sl) ch →
        wpAnyF E.P .any ops (post E Q) (fun w => St w E.ro cq) fins (t.len + 1) listed a w := fun v hy hk =>
      wpAnyF_first hoi (Region.noSelect_spec hs) (hQ' v) _ _ _ _ hfree (by simpa using hr) hy hS
        (ktree_sound hs hQ t _ _ _ _ _ hB' hk ⟨hi.kn.put _ _, hi.st, hi.ext⟩ (fun _ => hsub))
    rcases h with ⟨hg, v, hv, hk⟩ | ⟨j, want, d, b, hg, hj, hb, hy, hn⟩ | ⟨j, want, d, hg, hj, hb, hk⟩
    · exact key v (.inl ⟨by simp [Region.wanted, hg], fun w' hw' => hv a w' hi.kn hw'⟩) hk
    · have hyl := yielded_of hi.kn hj hb
      by_cases e : b = want
      · obtain ⟨v, hv, hk⟩ := hy e
        exact key v (.inl ⟨by simp [Region.wanted, hg, hyl, e], fun w' hw' => hv a w' hi.kn hw'⟩) hk
      · exact key undef (.inr ⟨by simp [Region.wanted, hg, hyl, e], rfl⟩) (hn (by cases b <;> cases want <;> simp_all))
    · have hyl := yielded_undef hi.kn hj hb
      exact key undef (.inr ⟨by simp [Region.wanted, hg, hyl], rfl⟩) hk
  | .one i t, listed, sl, ch, a, w, hB, h, hi, hcq => by
    simp only [ordT, Bool.and_eq_true, beq_iff_eq] at hB
    obtain ⟨hr, hB'⟩ := hB
    refine ⟨fun h0 => (by rw [hr] at h0; cases h0), fun j hj => ?_⟩
    rw [hr, List.mem_singleton] at hj
    subst hj
    exact loud_sound (fun sl' ch' a' w' hk hi' hq => ktree_sound hs hQ t _ _ _ _ _ hB' hk hi' hq) h hi
  | .two i t j u, listed, sl, ch, a, w, hB, h, hi, hcq => by
    simp only [ordT, Bool.and_eq_true, beq_iff_eq] at hB
    obtain ⟨⟨⟨hr, hl⟩, hB'⟩, hB2⟩ := hB
    refine ⟨fun h0 => (by rw [hr] at h0; cases h0), fun k hk => ?_⟩
    rw [hr] at hk
    simp only [List.mem_cons, List.not_mem_nil, or_false] at hk
    rcases hk with rfl | rfl
    · exact loud_sound (fun sl' ch' a' w' hk hi' hq => ktree_sound hs hQ t _ _ _ _ _ hB' hk hi' hq) h.1 hi
    · exact loud_sound (fun sl' ch' a' w' hk hi' hq => by rw [hl]; exact ktree_sound hs hQ u _ _ _ _ _ hB2 hk hi' hq) h.2 hi
  | .three i t j u k v, listed, sl, ch, a, w, hB, h, hi, hcq => by
    simp only [ordT, Bool.and_eq_true, beq_iff_eq] at hB
    obtain ⟨⟨⟨⟨⟨hr, hl⟩, hl2⟩, hB'⟩, hB2⟩, hB3⟩ := hB
    refine ⟨fun h0 => (by rw [hr] at h0; cases h0), fun x hx => ?_⟩
    rw [hr] at hx
    simp only [List.mem_cons, List.not_mem_nil, or_false] at hx
    rcases hx with rfl | rfl | rfl
    · exact loud_sound (fun sl' ch' a' w' hk hi' hq => ktree_sound hs hQ t _ _ _ _ _ hB' hk hi' hq) h.1 hi
    · exact loud_sound (fun sl' ch' a' w' hk hi' hq => by rw [hl]; exact ktree_sound hs hQ u _ _ _ _ _ hB2 hk hi' hq) h.2.1 hi
    · exact loud_sound (fun sl' ch' a' w' hk hi' hq => by rw [hl2]; exact ktree_sound hs hQ v _ _ _ _ _ hB3 hk hi' hq) h.2.2 hi

theorem kwp_tree {E : Env} {id : Nat} {l : List Oper} {Q : Exit → KPred} {sl : Slots} {ch : List Chunk} (t : OT) (fins : List Nat) (cq : List Chunk)
    (hm : E.P.follows .mixedOrders = true) (hB : (Region.noSelect l.toArray && ordT .any l.toArray fins t (Array.replicate l.toArray.size false) && (t.len == l.toArray.size)) = true)
    (hQ : ∀ c s h, ¬ Q (.panic c) s h) (hq : Sub cq ch) (h : KTree E l.toArray fins cq Q t sl ch) : KWp E (.region id l.toArray true) Q sl ch := by
  intro a w hi
  simp only [Bool.and_eq_true, beq_iff_eq] at hB
  refine wp_region_any hm (wpAny_of_F (S := fun w => St w E.ro cq) (fins := fins) _ _ _ _ ?_)
  have hlen : l.toArray.size = t.len := hB.2.symm
  have hgo := ktree_sound hB.1.1 hQ t _ sl ch a _ hB.1.2 h ⟨hi.kn, hi.st.drew, ⟨hi.ext.size, hi.ext.keep, hi.ext.from_, hi.ext.env⟩⟩ (fun _ => hq)
  rw [← hlen] at hgo
  exact hgo

section
variable {E : Env} {ops : Array Oper} {fins : List Nat} {cq : List Chunk} {Q : Exit → KPred} {i : Nat} {t : OT} {oi : Oper} {sl : Slots} {ch : List Chunk} {nq : Bool} {R : KPred}

theorem kt_nil (h : Q .normal sl ch) : KTree E ops fins cq Q .stop sl ch := h
theorem kt_two {j : Nat} {u : OT} (h : KLoud E ops fins cq i t.noQ (KTree E ops fins cq Q t) sl ch) (h2 : KLoud E ops fins cq j u.noQ (KTree E ops fins cq Q u) sl ch) : KTree E ops fins cq Q (.two i t j u) sl ch := ⟨h, h2⟩
theorem kt_one (h : KLoud E ops fins cq i t.noQ (KTree E ops fins cq Q t) sl ch) : KTree E ops fins cq Q (.one i t) sl ch := h

theorem kt_v {v : Value} (hi : ops[i]? = some oi) (hg : oi.guard = none) (hv : OpV E.P E.N E.ro cq oi sl v) (h : KTree E ops fins cq Q t (putS oi.dst v sl) ch) : KTree E ops fins cq Q (.quiet i t) sl ch :=
  ⟨oi, hi, .inl ⟨hg, v, hv, h⟩⟩
theorem kt_d {v : Value} {d : Nat} (hi : ops[i]? = some oi) (hg : oi.guard = none) (hd : oi.dst = some d) (hv : OpV E.P E.N E.ro cq oi sl v) (h : KTree E ops fins cq Q t ((d, v) :: sl) ch) : KTree E ops fins cq Q (.quiet i t) sl ch :=
  kt_v hi hg hv (by rw [hd]; exact h)
theorem kl_k (hi : ops[i]? = some oi) (hg : oi.guard = none) (h : OpK E.P E.N E.ro oi sl ch (fun sl' ch' => HeldT fins cq i nq ch' ∧ R sl' ch')) : KLoud E ops fins cq i nq R sl ch :=
  ⟨oi, hi, .inl ⟨hg, h⟩⟩
theorem kt_dk {v : Value} {d : Nat} (hi : ops[i]? = some oi) (hg : oi.guard = none) (hd : oi.dst = some d) (hh : Sub cq ch) (hv : OpV E.P E.N E.ro ch oi sl v) (h : KTree E ops fins cq Q t ((d, v) :: sl) ch) : KTree E ops fins cq Q (.one i t) sl ch :=
  kl_k hi hg (opk_of_opv hv ⟨.inl hh, by rw [hd]; exact h⟩)
end
end Go.Proofs.YtpfijnklnljccaaDoor
