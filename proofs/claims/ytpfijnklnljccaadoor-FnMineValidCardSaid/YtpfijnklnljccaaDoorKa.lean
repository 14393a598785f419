/- A layer of rules over the walk's weakest preconditions is proved here: states are known slots and memory chunks; no condition on the program. -/
import Derived.WalkKit
import Derived.Deep.Quiet
namespace Go.Proofs.YtpfijnklnljccaaDoor
open Go

theorem add_mk (b o n : Nat) : (⟨b, o, none⟩ : Addr).add n = ⟨b, o + n, none⟩ := by
  unfold Addr.add; split <;> simp_all

/-- A row of elements behind a slice's header or a pointer: `sz` cells an element. -/
structure Chunk where
  h : Value
  sz : Nat
  es : List (List Value)

def blkOf : Value → Option Nat
  | .pointer (some a) => some a.block
  | .slice (some a) _ cap => if cap = 0 then none else some a.block
  | .iface g _ => some g
  | _ => none

def Chunk.blk (c : Chunk) : Option Nat := blkOf c.h

/-- The address of cell `k` of element `i`. -/
def adr (h : Value) (sz i k : Nat) : Value :=
  match h with
  | .pointer (some a) => .pointer (some (a.add (i * sz + k)))
  | .slice (some a) _ _ => .pointer (some (a.add (i * sz + k)))
  | _ => undef

def RowOk (w : World) (rw : Bool) (a : Addr) (cs : List Value) (m : Nat) : Prop :=
  a.spot = none ∧ ∃ arr el fz, w.heap[a.block]? = some (.cells arr el fz) ∧ (rw = true → fz = (0, 0)) ∧
    a.off + m ≤ arr.size ∧ cs.length ≤ m ∧ ∀ j v, cs[j]? = some v → arr[a.off + j]? = some v

def Chunk.ok (w : World) (rw : Bool) (c : Chunk) : Prop :=
  0 < c.sz ∧ (∀ e ∈ c.es, e.length = c.sz) ∧
  match c.h with
  | .pointer (some a) => RowOk w rw a c.es.flatten (c.es.length * c.sz)
  | .slice (some a) n cap => n = c.es.length ∧ n ≤ cap ∧ (0 < cap → RowOk w rw a c.es.flatten (cap * c.sz))
  | .slice none n cap => n = 0 ∧ cap = 0 ∧ c.es = []
  | .iface g v => c.es = [] ∧ ∃ vals el fz, v = .agg vals ∧ w.heap[g]? = some (.cells vals el fz)      -- a whole variable
  | _ => False

def sep (c d : Chunk) : Prop := ∀ b, c.blk = some b → d.blk ≠ some b

theorem sep.symm {c d : Chunk} (h : sep c d) : sep d c := fun b hd hc => h b hc hd

structure St (w : World) (ro ch : List Chunk) : Prop where
  rok : ∀ c ∈ ro, c.ok w false
  wok : ∀ c ∈ ch, c.ok w true
  pw : ch.Pairwise sep
  rs : ∀ c ∈ ro, ∀ d ∈ ch, sep c d

structure Ext (w : World) (ch : List Chunk) (w' : World) (ch' : List Chunk) : Prop where
  size : w.heap.size ≤ w'.heap.size
  keep : ∀ b, b < w.heap.size → (∀ c ∈ ch, c.blk ≠ some b) → w'.heap[b]? = w.heap[b]?
  from_ : ∀ c ∈ ch', ∀ b, c.blk = some b → b < w.heap.size → ∃ e ∈ ch, e.blk = some b
  env : w'.os = w.os ∧ w'.tape = w.tape ∧ w'.output = w.output

theorem RowOk.lt {w : World} {rw : Bool} {a : Addr} {cs : List Value} {m : Nat} (h : RowOk w rw a cs m) : a.block < w.heap.size := by
  obtain ⟨_, arr, el, fz, hh, _⟩ := h
  exact (Array.getElem?_eq_some_iff.1 hh).1

theorem RowOk.weak {w : World} {rw : Bool} {a : Addr} {cs : List Value} {m : Nat} (h : RowOk w rw a cs m) : RowOk w false a cs m := by
  obtain ⟨hs, arr, el, fz, hh, _, r⟩ := h
  exact ⟨hs, arr, el, fz, hh, (by simp), r⟩

theorem RowOk.same {w w' : World} {rw : Bool} {a : Addr} {cs : List Value} {m : Nat} (h : RowOk w rw a cs m) (e : w'.heap[a.block]? = w.heap[a.block]?) : RowOk w' rw a cs m := by
  obtain ⟨hs, arr, el, fz, hh, r⟩ := h
  exact ⟨hs, arr, el, fz, e.trans hh, r⟩

theorem Chunk.ok.lt {w : World} {rw : Bool} {c : Chunk} (h : c.ok w rw) : ∀ b, c.blk = some b → b < w.heap.size := by
  intro b hb
  obtain ⟨_, _, h⟩ := h
  unfold Chunk.blk blkOf at hb
  split at hb
  · rename_i a e; rw [e] at h; cases hb; exact h.lt
  · rename_i a n cap e
    rw [e] at h
    split at hb
    · cases hb
    · cases hb; exact (h.2.2 (by omega)).lt
  · rename_i g v e
    rw [e] at h; cases hb
    obtain ⟨_, _, _, _, _, hh⟩ := h
    exact (Array.getElem?_eq_some_iff.1 hh).1
  · cases hb

theorem Chunk.ok.weak {w : World} {rw : Bool} {c : Chunk} (h : c.ok w rw) : c.ok w false := by
  obtain ⟨h0, h1, h2⟩ := h
  refine ⟨h0, h1, ?_⟩
  split at h2
  · exact h2.weak
  · exact ⟨h2.1, h2.2.1, fun hc => (h2.2.2 hc).weak⟩
  · exact h2
  · exact h2
  · exact h2

theorem Chunk.ok.same {w w' : World} {rw : Bool} {c : Chunk} (h : c.ok w rw) (e : ∀ b, c.blk = some b → w'.heap[b]? = w.heap[b]?) : c.ok w' rw := by
  obtain ⟨h0, h1, h2⟩ := h
  refine ⟨h0, h1, ?_⟩
  unfold Chunk.blk at e
  split at h2
  · rename_i a eh; rw [eh] at e; exact h2.same (e _ rfl)
  · rename_i a n cap eh; rw [eh] at e; exact ⟨h2.1, h2.2.1, fun hc => (h2.2.2 hc).same (e _ (by simp only [blkOf]; rw [if_neg (by omega)]))⟩
  · exact h2
  · rename_i g v eh
    rw [eh] at e
    obtain ⟨h3, vals, el, fz, h4, h5⟩ := h2
    exact ⟨h3, vals, el, fz, h4, (e _ rfl).trans h5⟩
  · exact h2

theorem Ext.refl (w : World) (ch : List Chunk) : Ext w ch w ch := ⟨Nat.le_refl _, fun _ _ _ => rfl, fun c hc _ hb _ => ⟨c, hc, hb⟩, rfl, rfl, rfl⟩

theorem Ext.trans {w w1 w2 : World} {c0 c1 c2 : List Chunk} (h : Ext w c0 w1 c1) (g : Ext w1 c1 w2 c2) : Ext w c0 w2 c2 where
  size := Nat.le_trans h.size g.size
  keep b hb hn := by
    rw [g.keep b (Nat.lt_of_lt_of_le hb h.size) (fun c hc e => by
      obtain ⟨d, hd, hdb⟩ := h.from_ c hc b e hb
      exact hn d hd hdb)]
    exact h.keep b hb hn
  from_ c hc b e hb := by
    obtain ⟨d, hd, hdb⟩ := g.from_ c hc b e (Nat.lt_of_lt_of_le hb h.size)
    exact h.from_ d hd b hdb hb
  env := ⟨g.env.1.trans h.env.1, g.env.2.1.trans h.env.2.1, g.env.2.2.trans h.env.2.2⟩

/-- Fewer chunks, in another order. -/
def Sub (c2 c1 : List Chunk) : Prop := ∃ rest, c1.Perm (c2 ++ rest)

theorem Sub.mem {c2 c1 : List Chunk} (h : Sub c2 c1) : ∀ c ∈ c2, c ∈ c1 := by
  obtain ⟨r, hp⟩ := h
  exact fun c hc => hp.symm.subset (List.mem_append_left _ hc)

theorem Sub.refl (c : List Chunk) : Sub c c := ⟨[], by simp⟩

theorem Sub.trans {a b c : List Chunk} (h : Sub a b) (g : Sub b c) : Sub a c := by
  obtain ⟨r, hp⟩ := h
  obtain ⟨s, hq⟩ := g
  exact ⟨r ++ s, hq.trans (by rw [← List.append_assoc]; exact hp.append_right s)⟩

theorem pairwise_perm {c1 c2 : List Chunk} (hp : c1.Perm c2) (h : c1.Pairwise sep) : c2.Pairwise sep :=
  (hp.pairwise_iff (fun hh => sep.symm hh)).1 h

theorem St.sub {w : World} {ro c1 c2 : List Chunk} (h : St w ro c1) (s : Sub c2 c1) : St w ro c2 where
  rok := h.rok
  wok c hc := h.wok c (s.mem c hc)
  pw := by
    obtain ⟨r, hp⟩ := s
    exact (List.pairwise_append.1 (pairwise_perm hp h.pw)).1
  rs c hc d hd := h.rs c hc d (s.mem d hd)

theorem Ext.sub {w w' : World} {c0 c1 c2 : List Chunk} (h : Ext w c0 w' c1) (s : Sub c2 c1) : Ext w c0 w' c2 :=
  ⟨h.size, h.keep, fun c hc => h.from_ c (s.mem c hc), h.env⟩

/-! ### Slots -/
abbrev Slots := List (Nat × Value)

def get : Slots → Nat → Option Value
  | [], _ => none
  | (t, v) :: r, u => match Nat.beq t u with
    | true => some v
    | false => get r u

def putS (dst : Option Nat) (v : Value) (sl : Slots) : Slots :=
  match dst with
  | some d => (d, v) :: sl
  | none => sl

structure Kn (a : Act) (N : Nat) (sl : Slots) : Prop where
  defers : a.defers = []
  size : a.tmps.size = N
  val : ∀ t v, t < N → get sl t = some v → a.tmps.getD t undef = v

theorem Kn.put {a : Act} {N : Nat} {sl : Slots} (h : Kn a N sl) (dst : Option Nat) (v : Value) : Kn (a.put dst v) N (putS dst v sl) := by
  cases dst with
  | none => exact h
  | some d =>
    refine ⟨h.defers, by simp [Act.put, h.size], fun t u ht hg => ?_⟩
    simp only [putS, get] at hg
    by_cases e : d = t
    · subst e
      rw [Nat.beq_refl] at hg
      cases hg
      simp [Act.put, Array.getD, h.size, ht]
    · have : Nat.beq d t = false := by
        cases hb : Nat.beq d t
        · rfl
        · exact absurd (Nat.eq_of_beq_eq_true hb) e
      rw [this] at hg
      have := h.val t u ht hg
      simp only [Act.put]
      rw [← this]
      simp [Array.getElem?_setIfInBounds_ne e]

def Knows (s2 s1 : Slots) : Prop := ∀ t v, get s2 t = some v → get s1 t = some v

theorem Knows.refl (s : Slots) : Knows s s := fun _ _ h => h

theorem Knows.nil (s : Slots) : Knows [] s := fun _ _ h => by cases h

theorem Knows.cons {s2 s1 : Slots} {t : Nat} {v : Value} (h : get s1 t = some v) (g : Knows s2 s1) : Knows ((t, v) :: s2) s1 := by
  intro u x hu
  simp only [get] at hu
  split at hu
  · rename_i e
    cases hu
    rw [← Nat.eq_of_beq_eq_true e]
    exact h
  · exact g u x hu

theorem Kn.weak {a : Act} {N : Nat} {s1 s2 : Slots} (h : Kn a N s1) (g : Knows s2 s1) : Kn a N s2 :=
  ⟨h.defers, h.size, fun t v ht hv => h.val t v ht (g t v hv)⟩

/-! ### States and code -/
structure Env where
  P : Program
  N : Nat
  ro : List Chunk
  w0 : World
  ch0 : List Chunk

structure In (E : Env) (sl : Slots) (ch : List Chunk) (a : Act) (w : World) : Prop where
  kn : Kn a E.N sl
  st : St w E.ro ch
  ext : Ext E.w0 E.ch0 w ch

abbrev KPred := Slots → List Chunk → Prop

def post (E : Env) (Q : Exit → KPred) : Exit → Act → World → Prop := fun e a w => ∃ sl ch, Q e sl ch ∧ In E sl ch a w

def KWp (E : Env) (c : Code) (Q : Exit → KPred) (sl : Slots) (ch : List Chunk) : Prop :=
  ∀ a w, In E sl ch a w → c.wp E.P (post E Q) a w

def KThen (n : KPred) (Q : Exit → KPred) : Exit → KPred
  | .normal => n
  | e => Q e

def KBlock (id : Nat) (Q : Exit → KPred) : Exit → KPred
  | .exit id' => if id' = id then Q .normal else Q (.exit id')
  | e => Q e

theorem In.weak {E : Env} {s1 s2 : Slots} {c1 c2 : List Chunk} {a : Act} {w : World} (h : In E s1 c1 a w) (g : Knows s2 s1) (s : Sub c2 c1) : In E s2 c2 a w :=
  ⟨h.kn.weak g, h.st.sub s, h.ext.sub s⟩

theorem kwp_weak {E : Env} {c : Code} {Q : Exit → KPred} {s1 s2 : Slots} {c1 c2 : List Chunk} (g : Knows s2 s1) (s : Sub c2 c1)
    (h : KWp E c Q s2 c2) : KWp E c Q s1 c1 := fun a w hi => h a w (hi.weak g s)

theorem kwp_mono {E : Env} {c : Code} {Q Q' : Exit → KPred} {sl : Slots} {ch : List Chunk} (h : KWp E c Q sl ch)
    (hq : ∀ e s c, Q e s c → Q' e s c) : KWp E c Q' sl ch :=
  fun a w hi => Code.wp_mono (fun _ _ _ ⟨s, c, q, i⟩ => ⟨s, c, hq _ _ _ q, i⟩) (h a w hi)

theorem kwp_skip {E : Env} {Q : Exit → KPred} {sl : Slots} {ch : List Chunk} (h : Q .normal sl ch) : KWp E .skip Q sl ch :=
  fun _ _ hi => wp_skip ⟨sl, ch, h, hi⟩

theorem kwp_ret {E : Env} {Q : Exit → KPred} {sl : Slots} {ch : List Chunk} (h : Q .ret sl ch) : KWp E .ret Q sl ch :=
  fun _ _ hi => wp_ret ⟨sl, ch, h, hi⟩

theorem kwp_exit {E : Env} {id : Nat} {Q : Exit → KPred} {sl : Slots} {ch : List Chunk} (h : Q (.exit id) sl ch) : KWp E (.exit id) Q sl ch :=
  fun _ _ hi => wp_exit ⟨sl, ch, h, hi⟩

theorem kwp_seq {E : Env} {x y : Code} {Q : Exit → KPred} {sl : Slots} {ch : List Chunk} (h : KWp E x (KThen (KWp E y Q) Q) sl ch) :
    KWp E (.seq x y) Q sl ch := by
  intro a w hi
  refine wp_seq (Code.wp_mono ?_ (h a w hi))
  rintro e a' w' ⟨s, c, q, i⟩
  cases e <;> first | exact q _ _ i | exact ⟨s, c, q, i⟩

theorem kwp_block {E : Env} {id : Nat} {c : Code} {Q : Exit → KPred} {sl : Slots} {ch : List Chunk} (h : KWp E c (KBlock id Q) sl ch) :
    KWp E (.block id c) Q sl ch := by
  intro a w hi
  refine wp_block (Code.wp_mono ?_ (h a w hi))
  rintro e a' w' ⟨s, c, q, i⟩
  cases e <;> try exact ⟨s, c, q, i⟩
  rename_i id'
  simp only [Exit.inBlock, KBlock] at q ⊢
  split
  · rename_i e; rw [if_pos e] at q; exact ⟨s, c, q, i⟩
  · rename_i e; rw [if_neg e] at q; exact ⟨s, c, q, i⟩

def kev (N : Nat) (sl : Slots) : Operand → Option Value
  | .tmp t => match Nat.blt t N with
    | true => get sl t
    | false => none
  | .const v => some v
  | .func f => some (.func (.func f) #[] #[])
  | .global _ => none

theorem Kn.ev {a : Act} {N : Nat} {sl : Slots} (h : Kn a N sl) {x : Operand} {v : Value} (hx : kev N sl x = some v) : a.eval x = v := by
  cases x with
  | tmp t =>
    simp only [kev] at hx
    split at hx
    · rename_i e
      have ht : t < N := by simpa [Nat.blt_eq] using e
      exact h.val t v ht hx
    · cases hx
  | const u => simp only [kev, Option.some.injEq] at hx; exact hx
  | func f => simp only [kev, Option.some.injEq] at hx; exact hx
  | global g => simp [kev] at hx

theorem kwp_cond {E : Env} {c : Operand} {x y : Code} {b : Bool} {Q : Exit → KPred} {sl : Slots} {ch : List Chunk}
    (hc : kev E.N sl c = some (.bool b)) (ht : b = true → KWp E x Q sl ch) (hf : b = false → KWp E y Q sl ch) : KWp E (.cond c x y) Q sl ch :=
  fun a w hi => wp_cond_split (hi.kn.ev hc) (fun e => ht e a w hi) (fun e => hf e a w hi)

/-- A loop, its relation with a number that falls. -/
theorem wp_loopN {P : Program} {c : Code} {Q : Exit → Act → World → Prop} (I : Nat → Act → World → Prop) {n : Nat} {a : Act} {w : World} (h0 : I n a w)
    (round : ∀ n a w, I n a w → c.wp P (Exit.then (fun a' w' => ∃ m, m < n ∧ I m a' w') Q) a w) : (Code.loop c).wp P Q a w := by
  intro b k cs
  have key : ∀ n a w, I n a w →
      ∃ e a' w', Q e a' w' ∧ Arrives P (lone (b.at a (.code c :: .inLoop c :: k)) cs w) b k cs e a' w' := by
    intro n
    induction n using Nat.strongRecOn with
    | _ n ih =>
      intro a w h
      obtain ⟨e, a₁, w₁, hq, harr⟩ := round n a w h b (.inLoop c :: k) cs
      cases e with
      | normal =>
        obtain ⟨m, hm, hq⟩ := hq
        obtain ⟨e₂, a₂, w₂, hq₂, harr₂⟩ := ih m hm a₁ w₁ hq
        exact ⟨e₂, a₂, w₂, hq₂, .of_steps (Steps.trans harr (.one step_inLoop)) harr₂⟩
      | exit id => exact ⟨_, a₁, w₁, hq, .pass (x := .inLoop c) rfl (fun _ _ => .inl (by simp)) harr⟩
      | goto l => exact ⟨_, a₁, w₁, hq, .pass (x := .inLoop c) rfl (fun _ _ => .inl (by simp)) harr⟩
      | ret => exact ⟨_, a₁, w₁, hq, .pass (x := .inLoop c) rfl (fun _ _ => .inl (by simp)) harr⟩
      | panic ch => exact ⟨_, a₁, w₁, hq, .pass (x := .inLoop c) rfl (fun _ _ => .inl (by simp)) harr⟩
      | outgrown => exact ⟨_, a₁, w₁, hq, .pass (x := .inLoop c) rfl (fun _ _ => .inl (by simp)) harr⟩
  obtain ⟨e, a', w', hq, harr⟩ := key n a w h0
  exact ⟨e, a', w', hq, .of_steps (.one step_loop) harr⟩

/-- At a loop's head the state is one of a family. -/
structure Head {α : Type} (S : α → Slots) (C : α → List Chunk) (p : α → Prop) (x : α) (sl : Slots) (ch : List Chunk) : Prop where
  p : p x
  s : Knows (S x) sl
  c : Sub (C x) ch

theorem kwp_loop {E : Env} {c : Code} {Q : Exit → KPred} {sl : Slots} {ch : List Chunk} {α : Type} (S : α → Slots) (C : α → List Chunk) (p : α → Prop) (μ : α → Nat)
    (h0 : ∃ x, Head S C p x sl ch)
    (round : ∀ x, p x → KWp E c (KThen (fun sl' ch' => ∃ y, Head S C p y sl' ch' ∧ μ y < μ x) Q) (S x) (C x)) : KWp E (.loop c) Q sl ch := by
  intro a w hi
  obtain ⟨x, hp, hs, hc⟩ := h0
  refine wp_loopN (fun n a w => ∃ x, p x ∧ μ x = n ∧ In E (S x) (C x) a w) (n := μ x) ⟨x, hp, rfl, hi.weak hs hc⟩ ?_
  rintro n a w ⟨x, hp, rfl, hi⟩
  refine Code.wp_mono ?_ (round x hp a w hi)
  rintro e a' w' ⟨s, c, q, i⟩
  cases e with
  | normal =>
    obtain ⟨y, ⟨hp', hs', hc'⟩, hlt⟩ := q
    exact ⟨_, hlt, y, hp', rfl, i.weak hs' hc'⟩
  | _ => exact ⟨s, c, q, i⟩

/-! ### Regions -/
def KOps (E : Env) (ops : Array Oper) (Q : Exit → KPred) (l : List Oper) (sl : Slots) (ch : List Chunk) : Prop :=
  ∀ a w, In E sl ch a w → wpList E.P ops (post E Q) l a w

theorem kwp_region {E : Env} {id : Nat} {l : List Oper} {Q : Exit → KPred} {sl : Slots} {ch : List Chunk} (h : KOps E l.toArray Q l sl ch) :
    KWp E (.region id l.toArray false) Q sl ch := fun a w hi => wp_region_lit (h a w hi)

theorem kops_nil {E : Env} {ops : Array Oper} {Q : Exit → KPred} {sl : Slots} {ch : List Chunk} (h : Q .normal sl ch) : KOps E ops Q [] sl ch :=
  fun _ _ hi => ⟨sl, ch, h, hi⟩

theorem kops_weak {E : Env} {ops : Array Oper} {Q : Exit → KPred} {l : List Oper} {s1 s2 : Slots} {c1 c2 : List Chunk} (g : Knows s2 s1) (s : Sub c2 c1)
    (h : KOps E ops Q l s2 c2) : KOps E ops Q l s1 c1 := fun a w hi => h a w (hi.weak g s)

/-- What one operation does, in whatever frame and world that fits. -/
def OpK (P : Program) (N : Nat) (ro : List Chunk) (o : Oper) (sl : Slots) (ch : List Chunk) (R : KPred) : Prop :=
  ∀ a w, Kn a N sl → St w ro ch → ∀ (K : Act → World → Prop) (Q : Exit → Act → World → Prop),
    (∀ a' w' sl' ch', R sl' ch' → Kn a' N sl' → St w' ro ch' → Ext w ch w' ch' → K a' w') → o.wp P a w K Q

theorem kops_step {E : Env} {ops : Array Oper} {Q : Exit → KPred} {o : Oper} {l : List Oper} {sl : Slots} {ch : List Chunk} (hg : o.guard = none)
    (h : OpK E.P E.N E.ro o sl ch (KOps E ops Q l)) : KOps E ops Q (o :: l) sl ch := by
  intro a w hi
  unfold wpList
  rw [if_pos (by simp [Region.wanted, hg])]
  exact .inl (h a w hi.kn hi.st _ _ fun a' w' sl' ch' hR hk hs he => hR a' w' ⟨hk, hs, hi.ext.trans he⟩)

theorem kops_guard {E : Env} {ops : Array Oper} {Q : Exit → KPred} {o : Oper} {l : List Oper} {sl : Slots} {ch : List Chunk} {j d : Nat} {want b : Bool}
    (hg : o.guard = some (j, want)) (hj : (ops[j]?).bind (·.dst) = some d) (hb : kev E.N sl (.tmp d) = some (.bool b))
    (hy : b = want → OpK E.P E.N E.ro o sl ch (KOps E ops Q l)) (hn : b = !want → KOps E ops Q l (putS o.dst undef sl) ch) : KOps E ops Q (o :: l) sl ch := by
  intro a w hi
  have hv := hi.kn.ev hb
  have hlt : d < a.tmps.size := by
    rw [hi.kn.size]
    simp only [kev] at hb
    split at hb
    · rename_i e; simpa [Nat.blt_eq] using e
    · cases hb
  have hyl : yielded ops a.tmps j = some b := by
    simp only [yielded, hj, Option.bind_some]
    have : a.tmps[d]? = some (.bool b) := by
      simp only [Act.eval] at hv
      rw [Array.getElem?_eq_getElem hlt]
      simpa [Array.getD, hlt] using hv
    rw [this]
  unfold wpList
  by_cases e : b = want
  · rw [if_pos (by simp [Region.wanted, hg, hyl, e])]
    exact .inl (hy e a w hi.kn hi.st _ _ fun a' w' sl' ch' hR hk hs he => hR a' w' ⟨hk, hs, hi.ext.trans he⟩)
  · rw [if_neg (by simp [Region.wanted, hg, hyl, e])]
    exact hn (by cases b <;> cases want <;> simp_all) _ w ⟨hi.kn.put _ _, hi.st, hi.ext⟩

/-- An operation that yields a value and leaves the world alone. -/
theorem opk_pure {P : Program} {N : Nat} {ro : List Chunk} {o : Oper} {sl : Slots} {ch : List Chunk} {R : KPred} {v : Value}
    (hr : ∀ a w, Kn a N sl → St w ro ch → (execOp a.eval o).run P w = .ok (.value v) w) (h : R (putS o.dst v sl) ch) : OpK P N ro o sl ch R := by
  intro a w hk hs K Q hK
  unfold Oper.wp
  rw [hr a w hk hs]
  exact hK _ _ _ _ h (hk.put _ _) hs (Ext.refl _ _)

/-! ### Calls -/
def Triple (P : Program) (f : FuncId) (args : List Value) (ro rw : List Chunk) (R : Value → List Chunk → Prop) : Prop :=
  ∀ w, St w ro rw → Calls P f args.toArray w fun e w' => ∃ r ch', e = .returned r ∧ R r ch' ∧ St w' ro ch' ∧ Ext w rw w' ch'

theorem Triple.mono {P : Program} {f : FuncId} {args : List Value} {ro rw : List Chunk} {R R' : Value → List Chunk → Prop} (h : Triple P f args ro rw R)
    (hr : ∀ r c, R r c → R' r c) : Triple P f args ro rw R' :=
  fun w hs => (h w hs).mono fun _ _ ⟨r, c, he, hR, x⟩ => ⟨r, c, he, hr _ _ hR, x⟩

/-- `c` may be read where `c0` may be read. -/
def View (c0 c : Chunk) : Prop := ∀ w, c0.ok w false → c.ok w false ∧ ∀ b, c.blk = some b → c0.blk = some b

theorem View.refl (c : Chunk) : View c c := fun _ h => ⟨h, fun _ h => h⟩

/-- Every chunk that a callee reads lies among the caller's. -/
def Views (l roC : List Chunk) : Prop := ∀ c ∈ roC, ∃ c0 ∈ l, View c0 c

theorem Views.nil (l : List Chunk) : Views l [] := fun _ h => by cases h

theorem Views.cons {l roC : List Chunk} {c0 c : Chunk} (h : c0 ∈ l) (v : View c0 c) (g : Views l roC) : Views l (c :: roC) := by
  intro d hd
  cases hd with
  | head => exact ⟨c0, h, v⟩
  | tail _ hd => exact g d hd

theorem St.view {w : World} {ro ch roC rwC rest : List Chunk} (h : St w ro ch) (hp : ch.Perm (rwC ++ rest)) (hv : Views (ro ++ rest) roC) : St w roC rwC where
  rok c hc := by
    obtain ⟨c0, h0, v⟩ := hv c hc
    refine (v w ?_).1
    rcases List.mem_append.1 h0 with h1 | h1
    · exact h.rok c0 h1
    · exact (h.wok c0 (hp.symm.subset (List.mem_append_right _ h1))).weak
  wok c hc := h.wok c (hp.symm.subset (List.mem_append_left _ hc))
  pw := (List.pairwise_append.1 (pairwise_perm hp h.pw)).1
  rs c hc d hd b hb := by
    obtain ⟨c0, h0, v⟩ := hv c hc
    rcases List.mem_append.1 h0 with h1 | h1
    · exact h.rs c0 h1 d (hp.symm.subset (List.mem_append_left _ hd)) b ((v w (h.rok c0 h1)).2 b hb)
    · have hs := (List.pairwise_append.1 (pairwise_perm hp h.pw)).2.2 d hd c0 h1
      exact (hs.symm) b ((v w (h.wok c0 (hp.symm.subset (List.mem_append_right _ h1))).weak).2 b hb)

theorem St.frame {w w' : World} {ro ch roC rwC rest ch' : List Chunk} (h : St w ro ch) (hp : ch.Perm (rwC ++ rest))
    (h' : St w' roC ch') (he : Ext w rwC w' ch') : St w' ro (ch' ++ rest) ∧ Ext w ch w' (ch' ++ rest) := by
  have hpw := List.pairwise_append.1 (pairwise_perm hp h.pw)
  have hrest : ∀ d ∈ rest, d ∈ ch := fun d hd => hp.symm.subset (List.mem_append_right _ hd)
  have hrw : ∀ d ∈ rwC, d ∈ ch := fun d hd => hp.symm.subset (List.mem_append_left _ hd)
  have keepR : ∀ d ∈ rest, ∀ b, d.blk = some b → w'.heap[b]? = w.heap[b]? := fun d hd b hb =>
    he.keep b ((h.wok d (hrest d hd)).lt b hb) (fun c hc e => hpw.2.2 c hc d hd b e hb)
  have keepRo : ∀ d ∈ ro, ∀ b, d.blk = some b → w'.heap[b]? = w.heap[b]? := fun d hd b hb =>
    he.keep b ((h.rok d hd).lt b hb) (fun c hc e => h.rs d hd c (hrw c hc) b hb e)
  refine ⟨⟨?_, ?_, ?_, ?_⟩, ⟨he.size, ?_, ?_, he.env⟩⟩
  · exact fun c hc => (h.rok c hc).same (keepRo c hc)
  · intro c hc
    rcases List.mem_append.1 hc with h1 | h1
    · exact h'.wok c h1
    · exact (h.wok c (hrest c h1)).same (keepR c h1)
  · refine List.pairwise_append.2 ⟨h'.pw, hpw.2.1, fun c hc d hd b hb hdb => ?_⟩
    obtain ⟨e, hee, heb⟩ := he.from_ c hc b hb ((h.wok d (hrest d hd)).lt b hdb)
    exact hpw.2.2 e hee d hd b heb hdb
  · intro c hc d hd b hb hdb
    rcases List.mem_append.1 hd with h1 | h1
    · obtain ⟨e, hee, heb⟩ := he.from_ d h1 b hdb ((h.rok c hc).lt b hb)
      exact h.rs c hc e (hrw e hee) b hb heb
    · exact h.rs c hc d (hrest d h1) b hb hdb
  · exact fun b hb hn => he.keep b hb (fun c hc => hn c (hrw c hc))
  · intro c hc b hb hlt
    rcases List.mem_append.1 hc with h1 | h1
    · obtain ⟨e, hee, heb⟩ := he.from_ c h1 b hb hlt
      exact ⟨e, hrw e hee, heb⟩
    · exact ⟨c, hrest c h1, hb⟩

/-- A call by its contract. -/
theorem opk_call {P : Program} {N : Nat} {ro : List Chunk} {o : Oper} {sl : Slots} {ch : List Chunk} {R : KPred} {f : FuncId} {xs : Array Operand} {ts : Array TypeId} {vs : List Value}
    {roC rwC rest : List Chunk} {G : Value → List Chunk → Prop}
    (ho : o.op = .call { callee := .value (.func f), args := xs, argTypes := ts })
    (hcall : ∀ (args : Array Value) (w : World), (callFunc f args).run P w = .ok (.enter f args) w)
    (hx : xs.toList.map (kev N sl) = vs.map some)
    (ht : Triple P f vs roC rwC G) (hp : ch.Perm (rwC ++ rest)) (hv : Views (ro ++ rest) roC)
    (h : ∀ r c', G r c' → R (putS o.dst r sl) (c' ++ rest)) : OpK P N ro o sl ch R := by
  intro a w hk hs K Q hK
  have hargs : xs.map a.eval = vs.toArray := by
    apply Array.toList_inj.1
    rw [Array.toList_map]
    have : ∀ (l : List Operand) (vs : List Value), l.map (kev N sl) = vs.map some → l.map a.eval = vs := by
      intro l
      induction l with
      | nil => intro vs h; cases vs <;> simp_all
      | cons x l ih =>
        intro vs h
        cases vs with
        | nil => simp at h
        | cons v vs =>
          simp only [List.map_cons, List.cons.injEq] at h ⊢
          exact ⟨hk.ev h.1, ih vs h.2⟩
    exact this _ _ hx
  have hf : a.eval (.func f) = .func (.func f) #[] #[] := rfl
  have hrun : (execOp a.eval o).run P w = .ok (.enter f vs.toArray) w := by
    unfold execOp
    simp only [ho, resolve, Sem.run_bind, hargs]
    simp [hf, Deferred.ofValue, invoke, hcall]
  unfold Oper.wp
  rw [hrun, Oper.upon_enter]
  refine (ht w (hs.view hp hv)).mono ?_
  rintro e w' ⟨r, c', rfl, hG, hs', he'⟩
  obtain ⟨s1, e1⟩ := hs.frame hp hs' he'
  exact hK _ _ _ _ (h r c' hG) (hk.put _ _) s1 e1

/-! ### From a body to a contract -/
def KBody (fn : Func) (P : Program) (ro : List Chunk) (R : Value → List Chunk → Prop) : Exit → KPred
  | .normal, sl, ch | .ret, sl, ch => ∃ r ch', (∀ a w, Kn a fn.ntmps sl → St w ro ch → (results fn a.tmps).run P w = .ok r w) ∧ R r ch' ∧ Sub ch' ch
  | _, _, _ => False

def argSlots : Nat → List Value → Slots
  | _, [] => []
  | k, v :: vs => (k, v) :: argSlots (k + 1) vs

theorem get_argSlots : ∀ (vs : List Value) (k t : Nat) (v : Value), get (argSlots k vs) t = some v → k ≤ t ∧ vs[t - k]? = some v
  | [], _, _, _, h => by cases h
  | u :: vs, k, t, v, h => by
    simp only [argSlots, get] at h
    split at h
    · rename_i e
      have := Nat.eq_of_beq_eq_true e
      subst this
      cases h
      simp
    · rename_i e
      obtain ⟨h1, h2⟩ := get_argSlots vs (k + 1) t v h
      refine ⟨by omega, ?_⟩
      have : t - k = (t - (k + 1)) + 1 := by omega
      rw [this]
      simpa using h2

theorem triple_intro {P : Program} {f : FuncId} {fn : Func} {c : Code} {vs : List Value} {ro rw : List Chunk} {R : Value → List Chunk → Prop}
    (hf : P.funcs[f]? = some fn) (hb : fn.body = some c) (hn : Nat.ble vs.length fn.ntmps = true)
    (h : ∀ w0, KWp ⟨P, fn.ntmps, ro, w0, rw⟩ c (KBody fn P ro R) (argSlots 0 vs) rw) : Triple P f vs ro rw R := by
  intro w hs
  have hle : vs.length ≤ fn.ntmps := Nat.le_of_ble_eq_true hn
  refine calls_of_wp hf hb (Code.wp_mono ?_ (h w { tmps := vs.toArray ++ Array.replicate (fn.ntmps - vs.toArray.size) undef, defers := [] } w ⟨⟨rfl, ?_, ?_⟩, hs, Ext.refl _ _⟩))
  · rintro e a' w' ⟨sl, ch, q, i⟩
    cases e <;> first
      | exact q.elim
      | (obtain ⟨r, ch', hr, hR, hsub⟩ := q
         exact ⟨i.kn.defers, r, hr a' w' i.kn i.st, r, ch', rfl, hR, i.st.sub hsub, i.ext.sub hsub⟩)
  · simp; omega
  · intro t v ht hg
    obtain ⟨_, h2⟩ := get_argSlots vs 0 t v hg
    simp only [Nat.sub_zero] at h2
    obtain ⟨hlt, he⟩ := List.getElem?_eq_some_iff.1 h2
    simp [Array.getD, hlt, he]
    omega

end Go.Proofs.YtpfijnklnljccaaDoor
