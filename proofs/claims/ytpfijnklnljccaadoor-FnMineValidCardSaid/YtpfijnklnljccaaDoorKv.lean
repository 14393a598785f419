/- Lists of lists of numbers: the rows' chunks are a segment of the list of chunks; no condition on the program. -/
import Derived.Test.YtpfijnklnljccaaDoorKu
import Derived.Test.YtpfijnklnljccaaDoorBa
namespace Go.Proofs.YtpfijnklnljccaaDoor
open Go
set_option linter.unusedVariables false
set_option linter.unusedSimpArgs false

def encI (v : Int) : List Value := [.int .i64 v]
structure Row where
  a : Option Addr
  c : Nat
  l : List Int
deriving Inhabited
def encRow (r : Row) : List Value := [.slice r.a r.l.length r.c]
def rowC (r : Row) : Chunk := ⟨.slice r.a r.l.length r.c, 1, r.l.map encI⟩
def rowsC (R : List Row) : List Chunk := R.map rowC
def Row.with (r : Row) (l : List Int) : Row := ⟨r.a, r.c, l⟩
def nilRow : Row := ⟨none, 0, []⟩
theorem ok_encRow (x : Row) : ∀ u ∈ encRow x, u.oneCell' = true := by simp [encRow, Value.oneCell']

/-- The numbers of the rows. -/
def nums (R : List Row) : List (List Int) := R.map (·.l)
theorem nums_len {R : List Row} : (nums R).length = R.length := by simp [nums]
theorem nums_gx {R : List Row} {i : Nat} (h : i < R.length) : gx (nums R) i = (gx R i).l := by
  rw [gx_eq (by rw [nums_len]; exact h), gx_eq h]; simp [nums]
theorem nums_set {R : List Row} {i : Nat} {r : Row} : nums (R.set i r) = (nums R).set i r.l := by simp [nums, List.map_set]
theorem nums_append {R T : List Row} : nums (R ++ T) = nums R ++ nums T := by simp [nums]
theorem nums_rep {n : Nat} : nums (List.replicate n nilRow) = List.replicate n [] := by simp [nums, nilRow]
theorem heads_set {R : List Row} {i : Nat} {l : List Int} (h : i < R.length) (hl : l.length = (gx R i).l.length) : (R.set i ((gx R i).with l)).map encRow = R.map encRow := by
  apply List.ext_getElem?
  intro j
  rw [List.getElem?_map, List.getElem?_map, List.getElem?_set]
  split
  · rename_i e; subst e
    simp only [gx_eq h] at hl
    simp [h, gx_eq h, Row.with, encRow, hl]
  · rfl

/-! ### Where chunks are found -/
section
variable {c a : Chunk} {l s r t : List Chunk}
theorem mh : c ∈ c :: l := List.Mem.head _
theorem mt (h : c ∈ l) : c ∈ a :: l := List.Mem.tail _ h
theorem ms (h : c ∈ l) : c ∈ s ++ l := List.mem_append_right _ h
theorem mas (h : c ∈ s ++ (t ++ r)) : c ∈ (s ++ t) ++ r := by rw [List.append_assoc]; exact h
theorem mr {R : List Row} {m : List (List Int)} {i : Nat} (hm : nums R = m) (h : i < m.length) : (⟨.slice (gx R i).a (gx m i).length (gx R i).c, 1, (gx m i).map encI⟩ : Chunk) ∈ rowsC R ++ r := by
  subst hm
  rw [nums_len] at h
  rw [nums_gx h]
  exact List.mem_append_left _ (List.mem_map.2 ⟨gx R i, gx_mem h, rfl⟩)
theorem mr0 {R : List Row} {m : List (List Int)} {i : Nat} (hm : nums R = m) (h : i < m.length) : (⟨.slice (gx R i).a (gx m i).length (gx R i).c, 1, (gx m i).map encI⟩ : Chunk) ∈ rowsC R := by
  have := mr (r := []) hm h
  rwa [List.append_nil] at this
theorem Pick.seg (h : Pick r c t) : Pick (s ++ r) c (s ++ t) := by
  induction s with
  | nil => exact h
  | cons a s ih => exact .there ih
theorem Upd.seg {d : Chunk} (h : Upd r c d t) : Upd (s ++ r) c d (s ++ t) := by
  induction s with
  | nil => exact h
  | cons a s ih => exact .there ih
end

/-- A whole segment is taken out. -/
inductive PickSeg : List Chunk → List Chunk → List Chunk → Prop
  | here {s r : List Chunk} : PickSeg (s ++ r) s r
  | there {a : Chunk} {r s t : List Chunk} : PickSeg r s t → PickSeg (a :: r) s (a :: t)
  | seg {b r s t : List Chunk} : PickSeg r s t → PickSeg (b ++ r) s (b ++ t)
theorem PickSeg.all {s : List Chunk} : PickSeg s s [] := by
  have h := PickSeg.here (s := s) (r := [])
  rwa [List.append_nil] at h
theorem PickSeg.perm {l s r : List Chunk} (h : PickSeg l s r) : l.Perm (s ++ r) := by
  induction h with
  | here => exact .refl _
  | there _ ih => exact (ih.cons _).trans List.perm_middle.symm
  | @seg b r s t _ ih =>
    refine (ih.append_left b).trans ?_
    rw [← List.append_assoc, ← List.append_assoc]
    exact List.perm_append_comm.append_right t
theorem Sub.seg {l s r c : List Chunk} (h : PickSeg l s r) (g : Sub c r) : Sub (s ++ c) l := by
  obtain ⟨x, hx⟩ := g
  exact ⟨x, (h.perm.trans (hx.append_left s)).trans (by rw [List.append_assoc])⟩
theorem Sub.seg0 {l s r : List Chunk} (h : PickSeg l s r) : Sub s l := by
  have := Sub.seg h (Sub.nil r)
  rwa [List.append_nil] at this
theorem Sub.assoc {a b c d : List Chunk} (h : Sub (a ++ (b ++ c)) d) : Sub ((a ++ b) ++ c) d := by rw [List.append_assoc]; exact h
theorem Views.seg {l s c : List Chunk} (h : ∀ x ∈ s, x ∈ l) (g : Views l c) : Views l (s ++ c) := by
  intro x hx
  rcases List.mem_append.1 hx with h1 | h1
  · exact ⟨x, h x h1, View.refl x⟩
  · exact g x h1
theorem Views.seg0 {l s : List Chunk} (h : ∀ x ∈ s, x ∈ l) : Views l s := fun x hx => ⟨x, h x hx, View.refl x⟩
theorem sub_here {s r : List Chunk} : ∀ x ∈ s, x ∈ s ++ r := fun _ h => List.mem_append_left _ h
theorem sub_self {s : List Chunk} : ∀ x ∈ s, x ∈ s := fun _ h => h
theorem sub_there {s r : List Chunk} {a : Chunk} (h : ∀ x ∈ s, x ∈ r) : ∀ x ∈ s, x ∈ a :: r := fun x hx => List.mem_cons_of_mem _ (h x hx)
theorem sub_seg {s r b : List Chunk} (h : ∀ x ∈ s, x ∈ r) : ∀ x ∈ s, x ∈ b ++ r := fun x hx => List.mem_append_right _ (h x hx)
theorem sub_assoc {s a b r : List Chunk} (h : ∀ x ∈ s, x ∈ a ++ (b ++ r)) : ∀ x ∈ s, x ∈ (a ++ b) ++ r := fun x hx => by rw [List.append_assoc]; exact h x hx
theorem perm_mat {c1 r rest : List Chunk} {R : List Row} {c : Chunk} (hp : Pick c1 c r) (hs : PickSeg r (rowsC R) rest) : c1.Perm ((c :: rowsC R) ++ rest) := hp.perm.trans (hs.perm.cons c)
theorem perm_cons2 {c1 r rest fp : List Chunk} {c : Chunk} (hp : Pick c1 c r) (g : r.Perm (fp ++ rest)) : c1.Perm ((c :: fp) ++ rest) := perm_cons hp g

theorem rows_pick : ∀ {R : List Row} {i : Nat} (_ : i < R.length), (rowsC R).Perm (rowC (gx R i) :: rowsC (R.eraseIdx i))
  | [], _, h => by simp at h
  | r :: R, 0, _ => .refl _
  | r :: R, i + 1, h => ((rows_pick (R := R) (i := i) (by simpa using h)).cons _).trans (.swap _ _ _)
theorem rows_set : ∀ {R : List Row} {i : Nat} {q : Row} (_ : i < R.length), (rowsC (R.set i q)).Perm (rowC q :: rowsC (R.eraseIdx i))
  | [], _, _, h => by simp at h
  | r :: R, 0, _, _ => .refl _
  | r :: R, i + 1, q, h => ((rows_set (R := R) (i := i) (q := q) (by simpa using h)).cons _).trans (.swap _ _ _)

/-- The rows of a slice of slices are others: its own chunk and its segment. -/
inductive RowU (h : Value) (R R' : List Row) : List Chunk → List Chunk → Prop
  | outer {l l' : List Chunk} : PickSeg l (rowsC R) l' → RowU h R R' (⟨h, 1, R.map encRow⟩ :: l) (⟨h, 1, R'.map encRow⟩ :: (rowsC R' ++ l'))
  | there {a : Chunk} {l l' : List Chunk} : RowU h R R' l l' → RowU h R R' (a :: l) (a :: l')
  | seg {s l l' : List Chunk} : RowU h R R' l l' → RowU h R R' (s ++ l) (s ++ l')
theorem RowU.perm {h : Value} {R R' : List Row} {l l' : List Chunk} (u : RowU h R R' l l') : ∃ s, l.Perm (⟨h, 1, R.map encRow⟩ :: (rowsC R ++ s)) ∧ l'.Perm (⟨h, 1, R'.map encRow⟩ :: (rowsC R' ++ s)) := by
  induction u with
  | outer p => exact ⟨_, p.perm.cons _, .refl _⟩
  | @there a l l' _ ih =>
    obtain ⟨s, h1, h2⟩ := ih
    exact ⟨a :: s, ((h1.cons _).trans (.swap _ _ _)).trans (List.perm_middle.symm.cons _), ((h2.cons _).trans (.swap _ _ _)).trans (List.perm_middle.symm.cons _)⟩
  | @seg b l l' _ ih =>
    obtain ⟨s, h1, h2⟩ := ih
    refine ⟨b ++ s, ?_, ?_⟩
    · refine (h1.append_left b).trans (List.perm_middle.trans (.cons _ ?_))
      rw [← List.append_assoc, ← List.append_assoc]
      exact List.perm_append_comm.append_right s
    · refine (h2.append_left b).trans (List.perm_middle.trans (.cons _ ?_))
      rw [← List.append_assoc, ← List.append_assoc]
      exact List.perm_append_comm.append_right s
theorem RowU.mem {h : Value} {R R' : List Row} {l l' : List Chunk} (u : RowU h R R' l l') : (⟨h, 1, R.map encRow⟩ : Chunk) ∈ l := by
  obtain ⟨s, h1, _⟩ := u.perm
  exact h1.symm.subset List.mem_cons_self

inductive RowF (h : Value) (R : List Row) : List Chunk → (List Row → List Chunk) → Prop
  | outer {l l' : List Chunk} : PickSeg l (rowsC R) l' → RowF h R (⟨h, 1, R.map encRow⟩ :: l) (fun R' => ⟨h, 1, R'.map encRow⟩ :: (rowsC R' ++ l'))
  | there {a : Chunk} {l : List Chunk} {F : List Row → List Chunk} : RowF h R l F → RowF h R (a :: l) (fun R' => a :: F R')
  | seg {s l : List Chunk} {F : List Row → List Chunk} : RowF h R l F → RowF h R (s ++ l) (fun R' => s ++ F R')
theorem RowF.row {h : Value} {R : List Row} {l : List Chunk} {F : List Row → List Chunk} (u : RowF h R l F) (R' : List Row) : RowU h R R' l (F R') := by
  induction u with
  | outer p => exact .outer p
  | there _ ih => exact .there ih
  | seg _ ih => exact .seg ih

theorem St.perm {w : World} {ro c1 c2 : List Chunk} (h : St w ro c1) (p : c1.Perm c2) : St w ro c2 := h.sub ⟨[], by simpa using p⟩
theorem Ext.perm {w w' : World} {c0 c1 c2 : List Chunk} (h : Ext w c0 w' c1) (p : c1.Perm c2) : Ext w c0 w' c2 := h.sub ⟨[], by simpa using p⟩
/-- The chunks from which one starts may be spelled otherwise. -/
theorem Ext.perm0 {w w' : World} {c0 c1 c2 : List Chunk} (h : Ext w c0 w' c2) (p : c0.Perm c1) : Ext w c1 w' c2 :=
  ⟨h.size, fun b hb hn => h.keep b hb (fun c hc => hn c (p.subset hc)), fun c hc b hb hlt => by
    obtain ⟨e, he, heb⟩ := h.from_ c hc b hb hlt
    exact ⟨e, p.subset he, heb⟩, h.env⟩

section
variable {P : Program} {N : Nat} {ro ch ch' : List Chunk} {o : Oper} {sl : Slots} {Rk : KPred}
/-- A step in a list of chunks is one in any that has the same chunks. -/
theorem opk_perm {c1 : List Chunk} (p : ch.Perm c1) (h : OpK P N ro o sl c1 Rk) : OpK P N ro o sl ch Rk := by
  intro a w hk hs K Q hK
  exact h a w hk (hs.perm p) K Q fun a' w' sl' ch' hR hk' hs' he => hK a' w' sl' ch' hR hk' hs' (he.perm0 p.symm)
/-- What comes out may be forgotten in part. -/
theorem opk_sub {R2 : KPred} (h : OpK P N ro o sl ch R2) (g : ∀ s c, R2 s c → ∃ c2, Sub c2 c ∧ Rk s c2) : OpK P N ro o sl ch Rk := by
  intro a w hk hs K Q hK
  refine h a w hk hs K Q fun a' w' sl' ch' hR hk' hs' he => ?_
  obtain ⟨c2, hsub, hr⟩ := g sl' ch' hR
  exact hK a' w' sl' c2 hr hk' (hs'.sub hsub) (he.sub hsub)

/-- One number of a row. -/
theorem s_row {t : TypeId} {x y : Operand} {h : Value} {R : List Row} {m : List (List Int)} {i j : Nat} {v : Int} {F : List Row → List Chunk} (hi : i < m.length) (hj : j < (gx m i).length) (hm : nums R = m) (hsz : ∀ w, (sizeOf t).run P w = .ok 1 w)
    (hR : ∀ R', nums R' = m.set i ((gx m i).set j v) → Rk (putS o.dst undef sl) (F R'))
    (ho : o.op = .store t x y := by rfl) (hx : kev N sl x = some (adr (.slice (gx R i).a (gx m i).length (gx R i).c) 1 j 0) := by rfl) (hy : kev N sl y = some (.int .i64 v) := by rfl) (hu : RowF h R ch F := by repeat (first | exact RowF.outer (by repeat (first | exact PickSeg.here | exact PickSeg.all | apply PickSeg.there | apply PickSeg.seg)) | apply RowF.there | apply RowF.seg)) : OpK P N ro o sl ch Rk := by
  subst hm
  have hi' : i < R.length := by rwa [nums_len] at hi
  rw [nums_gx hi'] at hR hj hx
  obtain ⟨s', h1, h2⟩ := (hu.row (R.set i ((gx R i).with ((gx R i).l.set j v)))).perm
  have hR' := hR (R.set i ((gx R i).with ((gx R i).l.set j v))) (by rw [nums_set]; rfl)
  rw [heads_set hi' (by simp)] at h2
  have p1 : ch.Perm (rowC (gx R i) :: (⟨h, 1, R.map encRow⟩ :: (rowsC (R.eraseIdx i) ++ s'))) :=
    h1.trans ((((rows_pick hi').append_right s').cons _).trans (.swap _ _ _))
  have p2 : (F (R.set i ((gx R i).with ((gx R i).l.set j v)))).Perm (rowC ((gx R i).with ((gx R i).l.set j v)) :: (⟨h, 1, R.map encRow⟩ :: (rowsC (R.eraseIdx i) ++ s'))) :=
    h2.trans ((((rows_set hi').append_right s').cons _).trans (.swap _ _ _))
  refine opk_perm p1 ?_
  intro a w hk hs K Q hK
  have hu' : Upd (rowC (gx R i) :: (⟨h, 1, R.map encRow⟩ :: (rowsC (R.eraseIdx i) ++ s'))) ⟨.slice (gx R i).a (gx R i).l.length (gx R i).c, 1, (gx R i).l.map encI⟩ ⟨.slice (gx R i).a (gx R i).l.length (gx R i).c, 1, ((gx R i).l.map encI).set j ((encI (gx (gx R i).l j)).set 0 (.int .i64 v))⟩
      (rowC ((gx R i).with ((gx R i).l.set j v)) :: (⟨h, 1, R.map encRow⟩ :: (rowsC (R.eraseIdx i) ++ s'))) := by
    have e : ((gx R i).l.map encI).set j ((encI (gx (gx R i).l j)).set 0 (.int .i64 v)) = ((gx R i).l.set j v).map encI := map_set' rfl
    have e2 : rowC ((gx R i).with ((gx R i).l.set j v)) = ⟨.slice (gx R i).a (gx R i).l.length (gx R i).c, 1, ((gx R i).l.set j v).map encI⟩ := by simp [rowC, Row.with]
    rw [e, e2]; exact .here
  refine opk_store (ro := ro) (R := fun s c => s = putS o.dst undef sl ∧ c = (rowC ((gx R i).with ((gx R i).l.set j v)) :: (⟨h, 1, R.map encRow⟩ :: (rowsC (R.eraseIdx i) ++ s')))) ho hx hy hsz rfl hu' (gx_map hj) (by decide) ⟨rfl, rfl⟩ a w hk hs K Q ?_
  rintro a' w' _ _ ⟨rfl, rfl⟩ hk' hs' he
  exact hK a' w' _ _ hR' hk' (hs'.perm p2.symm) (he.perm p2.symm)

/-- A row is replaced by a list of the call's own. -/
theorem s_setrow {t : TypeId} {x y : Operand} {a : Option Addr} {n c : Nat} {ra : Option Addr} {rn rc : Nat} {l : List Int} {R : List Row} {m : List (List Int)} {i : Nat} {c1 : List Chunk} {F : List Row → List Chunk} (hi : i < n) (hm : nums R = m) (hsz : ∀ w, (sizeOf t).run P w = .ok 1 w)
    (hR : ∀ R', nums R' = m.set i l → Rk (putS o.dst undef sl) (F R'))
    (ho : o.op = .store t x y := by rfl) (hx : kev N sl x = some (adr (.slice a n c) 1 i 0) := by rfl) (hy : kev N sl y = some (.slice ra rn rc) := by rfl) (hp : Pick ch ⟨.slice ra rn rc, 1, l.map encI⟩ c1 := by repeat (first | exact Pick.here | apply Pick.there | apply Pick.seg)) (hu : RowF (.slice a n c) R c1 F := by repeat (first | exact RowF.outer (by repeat (first | exact PickSeg.here | exact PickSeg.all | apply PickSeg.there | apply PickSeg.seg)) | apply RowF.there | apply RowF.seg)) : OpK P N ro o sl ch Rk := by
  subst hm
  have hR' := hR (R.set i ⟨ra, rc, l⟩) (by rw [nums_set])
  obtain ⟨s, h1, h2⟩ := (hu.row (R.set i ⟨ra, rc, l⟩)).perm
  intro ac w hk hs K Q hK
  have hrn := slice_len (hs.wok _ hp.mem)
  rw [List.length_map] at hrn
  subst hrn
  have p1 : ch.Perm (⟨.slice a n c, 1, R.map encRow⟩ :: (rowC ⟨ra, rc, l⟩ :: (rowsC R ++ s))) := (hp.perm.trans (h1.cons _)).trans (.swap _ _ _)
  revert ac w K Q
  refine opk_perm p1 ?_
  intro ac w hk hs K Q hK
  have hl := slice_len (hs.wok _ List.mem_cons_self)
  rw [List.length_map] at hl
  have hi' : i < R.length := by omega
  have hu' : Upd (⟨.slice a n c, 1, R.map encRow⟩ :: (rowC ⟨ra, rc, l⟩ :: (rowsC R ++ s))) ⟨.slice a n c, 1, R.map encRow⟩ ⟨.slice a n c, 1, (R.map encRow).set i ((encRow (gx R i)).set 0 (.slice ra l.length rc))⟩
      (⟨.slice a n c, 1, (R.set i ⟨ra, rc, l⟩).map encRow⟩ :: (rowC ⟨ra, rc, l⟩ :: (rowsC R ++ s))) := by
    have e : (R.map encRow).set i ((encRow (gx R i)).set 0 (.slice ra l.length rc)) = (R.set i (⟨ra, rc, l⟩ : Row)).map encRow := map_set' rfl
    rw [e]; exact .here
  have hsub : Sub (F (R.set i ⟨ra, rc, l⟩)) (⟨.slice a n c, 1, (R.set i ⟨ra, rc, l⟩).map encRow⟩ :: (rowC ⟨ra, rc, l⟩ :: (rowsC R ++ s))) := by
    refine ⟨[rowC (gx R i)], ?_⟩
    have q1 : (rowC ⟨ra, rc, l⟩ :: (rowsC R ++ s)).Perm ((rowsC (R.set i ⟨ra, rc, l⟩) ++ s) ++ [rowC (gx R i)]) := by
      have e1 := (((rows_pick hi').append_right s).cons (rowC ⟨ra, rc, l⟩)).trans (.swap _ _ _)
      have e2 := (rows_set (q := (⟨ra, rc, l⟩ : Row)) hi').append_right s
      exact (e1.trans (e2.symm.cons _)).trans (List.perm_append_comm (l₁ := [rowC (gx R i)]))
    exact (q1.cons _).trans ((h2.append_right _).symm)
  refine opk_store (ro := ro) (R := fun s2 c2 => s2 = putS o.dst undef sl ∧ c2 = (⟨.slice a n c, 1, (R.set i ⟨ra, rc, l⟩).map encRow⟩ :: (rowC ⟨ra, rc, l⟩ :: (rowsC R ++ s)))) ho hx hy hsz rfl hu' (gx_map hi') (by decide) ⟨rfl, rfl⟩ ac w hk hs K Q ?_
  rintro a' w' _ _ ⟨rfl, rfl⟩ hk' hs' he
  exact hK a' w' _ _ hR' hk' (hs'.sub hsub) (he.sub hsub)

/-- A call that writes into a row. -/
theorem n_callrow {f : FuncId} {xs : Array Operand} {ts : Array TypeId} {vs : List Value} {roC : List Chunk} {G : Value → List Chunk → Prop} {h : Value} {R : List Row} {m : List (List Int)} {i : Nat} {F : List Row → List Chunk} (l' : List Int)
    (hcall : ∀ (args : Array Value) (w : World), (callFunc f args).run P w = .ok (.enter f args) w) (hi : i < m.length) (hm : nums R = m) (ht : Triple P f vs roC [⟨.slice (gx R i).a (gx m i).length (gx R i).c, 1, (gx m i).map encI⟩] G) (hv : Views ro roC)
    (hG : ∀ r c', G r c' → c' = [⟨.slice (gx R i).a (gx m i).length (gx R i).c, 1, l'.map encI⟩])
    (hR : ∀ r c' R', G r c' → nums R' = m.set i l' → Rk (putS o.dst r sl) (F R'))
    (ho : o.op = .call { callee := .value (.func f), args := xs, argTypes := ts } := by rfl) (hx : xs.toList.map (kev N sl) = vs.map some := by rfl) (hu : RowF h R ch F := by repeat (first | exact RowF.outer (by repeat (first | exact PickSeg.here | exact PickSeg.all | apply PickSeg.there | apply PickSeg.seg)) | apply RowF.there | apply RowF.seg)) : OpK P N ro o sl ch Rk := by
  subst hm
  have hi' : i < R.length := by rwa [nums_len] at hi
  rw [nums_gx hi'] at ht hG
  obtain ⟨s', h1, h2⟩ := (hu.row (R.set i ((gx R i).with l'))).perm
  have p1 : ch.Perm (rowC (gx R i) :: (⟨h, 1, R.map encRow⟩ :: (rowsC (R.eraseIdx i) ++ s'))) :=
    h1.trans ((((rows_pick hi').append_right s').cons _).trans (.swap _ _ _))
  refine opk_perm p1 ?_
  intro a w hk hs K Q hK
  refine opk_call (ro := ro) (rest := ⟨h, 1, R.map encRow⟩ :: (rowsC (R.eraseIdx i) ++ s')) (R := fun s c => ∃ r c', G r c' ∧ s = putS o.dst r sl ∧ c = c' ++ (⟨h, 1, R.map encRow⟩ :: (rowsC (R.eraseIdx i) ++ s'))) ho hcall hx ht (.refl _) (fun c hc => by
    obtain ⟨c0, h0, v⟩ := hv c hc
    exact ⟨c0, List.mem_append_left _ h0, v⟩) (fun r c' hg => ⟨r, c', hg, rfl, rfl⟩) a w hk hs K Q ?_
  rintro a' w' _ _ ⟨r, c', hg, rfl, rfl⟩ hk' hs' he
  have e := hG r c' hg
  have hR' := hR r c' (R.set i ((gx R i).with l')) hg (by rw [nums_set]; rfl)
  subst e
  have hl := slice_len (hs'.wok _ (List.mem_append_left _ List.mem_cons_self))
  rw [List.length_map] at hl
  rw [heads_set hi' hl.symm] at h2
  have p2 : (F (R.set i ((gx R i).with l'))).Perm ([⟨.slice (gx R i).a (gx R i).l.length (gx R i).c, 1, l'.map encI⟩] ++ (⟨h, 1, R.map encRow⟩ :: (rowsC (R.eraseIdx i) ++ s'))) := by
    have e2 : (⟨.slice (gx R i).a (gx R i).l.length (gx R i).c, 1, l'.map encI⟩ : Chunk) = rowC ((gx R i).with l') := by simp [rowC, Row.with, hl]
    rw [e2]
    exact h2.trans ((((rows_set hi').append_right s').cons _).trans (.swap _ _ _))
  exact hK a' w' _ _ hR' hk' (hs'.perm p2.symm) (he.perm p2.symm)

theorem In.nils {w0 w : World} {ro ch ch0 : List Chunk} (hs : St w ro ch) (he : Ext w0 ch0 w ch) : ∀ n, St w ro (rowsC (List.replicate n nilRow) ++ ch) ∧ Ext w0 ch0 w (rowsC (List.replicate n nilRow) ++ ch)
  | 0 => ⟨hs, he⟩
  | n + 1 => by
    obtain ⟨h1, h2⟩ := In.nils hs he n
    refine ⟨h1.nil (sz := 1) (by decide), ⟨h2.size, h2.keep, fun c hc b hb hlt => ?_, h2.env⟩⟩
    rcases List.mem_cons.1 hc with rfl | hc
    · simp [Chunk.blk, blkOf, rowC, nilRow] at hb
    · exact h2.from_ c hc b hb hlt

/-- A new slice of slices that are nil. -/
theorem n_makeM {t e : TypeId} {x y : Operand} {k k' : IntKind} {n : Int} {j : Nat} {i : TypeInfo} {z : Value} (hj : n = (j : Int)) (hn : j ≤ 1073741824)
    (ht : P.underlying t = some (.slice e)) (hi : P.info? e = some i) (hb : i.bytes ≤ 65536)
    (hR : ∀ (p : Addr) (R : List Row), nums R = List.replicate j [] → Rk (putS o.dst (.slice (some p) j j) sl) (⟨.slice (some p) j j, 1, R.map encRow⟩ :: (rowsC R ++ ch)))
    (ho : o.op = .makeSlice t x y := by rfl) (hx : kev N sl x = some (.int k n) := by rfl) (hy : kev N sl y = some (.int k' n) := by rfl) (hz : i.zero = some z := by rfl) (hsz : i.size = 1 := by rfl)
    (hzs : z.cells.toList = encRow nilRow := by rfl) : OpK P N ro o sl ch Rk := by
  subst hj
  have hb' : (i.bytes : Int) * (j : Int) ≤ 281474976710656 := by
    have h1 : i.bytes * j ≤ 65536 * 1073741824 := Nat.mul_le_mul hb hn
    have h2 : ((i.bytes * j : Nat) : Int) ≤ 70368744177664 := by omega
    rw [Int.natCast_mul] at h2
    omega
  intro a w hk hs K Q hK
  refine opk_make (R := fun s c => ∃ p : Addr, s = putS o.dst (.slice (some p) j j) sl ∧ c = (⟨.slice (some p) j j, 1, (List.replicate j nilRow).map encRow⟩ :: ch)) ho hx hy ht hi hz hsz hzs rfl (by decide) (by omega) hb' (by omega) (fun p => ⟨p, by simp, by simp [List.map_replicate]⟩) a w hk hs K Q ?_
  rintro a' w' _ _ ⟨p, rfl, rfl⟩ hk' hs' he'
  obtain ⟨h1, h2⟩ := In.nils hs' he' j
  have pp : (rowsC (List.replicate j nilRow) ++ (⟨.slice (some p) j j, 1, (List.replicate j nilRow).map encRow⟩ :: ch)).Perm (⟨.slice (some p) j j, 1, (List.replicate j nilRow).map encRow⟩ :: (rowsC (List.replicate j nilRow) ++ ch)) := List.perm_middle
  exact hK a' w' _ _ (hR p _ nums_rep) hk' (h1.perm pp) (h2.perm pp)

/-- The empty literal. -/
theorem n_litM {t e : TypeId} {ps : Array (Nat × Operand)} {z : Value} (hu : ∀ w, (underlying t).run P w = .ok (.slice e) w) (hsz : ∀ w, (sizeOf e).run P w = .ok 1 w) (hz : ∀ w, (zeroValue e).run P w = .ok z w)
    (hR : ∀ (p : Addr) (R : List Row), nums R = [] → Rk (putS o.dst (.slice (some p) 0 0) sl) (⟨.slice (some p) 0 0, 1, R.map encRow⟩ :: (rowsC R ++ ch)))
    (ho : o.op = .buildSlice t 0 ps := by rfl) (hps : ps.toList.map (fun p => (p.1, kev N sl p.2)) = [] := by rfl) (hzl : z.cells.size = 1 := by rfl) : OpK P N ro o sl ch Rk := by
  refine opk_buildSlice (vs := []) ho hps rfl hu hsz hz hzl (by decide) (by simp) (by decide) ?_
  intro p; exact hR p [] rfl

/-- A list of the call's own is put behind. -/
theorem n_appM {t e : TypeId} {x y : Operand} {i : TypeInfo} {z : Value} {a b : Option Addr} {n c q2 c2 : Nat} {ra : Option Addr} {rn rc : Nat} {l : List Int} {R : List Row} {m : List (List Int)} {k1 k2 k3 : List Chunk} (hm : nums R = m) (hlim : m.length + 1 ≤ 1073741824)
    (ht : P.underlying t = some (.slice e)) (hi : P.info? e = some i) (hb : i.bytes ≤ 65536)
    (hR : ∀ (a' : Option Addr) (c' : Nat) (R' : List Row), nums R' = m ++ [l] → Rk (putS o.dst (.slice a' (m ++ [l]).length c') sl) (⟨.slice a' (m ++ [l]).length c', 1, R'.map encRow⟩ :: (rowsC R' ++ k3)))
    (ho : o.op = .call { callee := .builtin .append, args := #[x, y], argTypes := #[t, t] } := by rfl)
    (hx : kev N sl x = some (.slice a n c) := by rfl) (hy : kev N sl y = some (.slice b q2 c2) := by rfl)
    (hlit : (⟨.slice b q2 c2, 1, [[.slice ra rn rc]]⟩ : Chunk) ∈ ro ++ ch := by repeat (first | exact mh | apply mt | apply mas | apply ms)) (hp1 : Pick ch ⟨.slice a n c, 1, R.map encRow⟩ k1 := by repeat (first | exact Pick.here | apply Pick.there | apply Pick.seg)) (hp2 : PickSeg k1 (rowsC R) k2 := by repeat (first | exact PickSeg.here | exact PickSeg.all | apply PickSeg.there | apply PickSeg.seg)) (hp3 : Pick k2 ⟨.slice ra rn rc, 1, l.map encI⟩ k3 := by repeat (first | exact Pick.here | apply Pick.there | apply Pick.seg))
    (hz : i.zero = some z := by rfl) (hsz : i.size = 1 := by rfl) (hzl : z.cells.size = 1 := by rfl) : OpK P N ro o sl ch Rk := by
  subst hm
  intro ac w hkn hs K Q hK
  have h1 := slice_len (hs.wok _ hp1.mem)
  have h2 := slice_len (mem_ok hs hlit)
  have hmem3 : (⟨.slice ra rn rc, 1, l.map encI⟩ : Chunk) ∈ ch := hp1.perm.symm.subset (List.mem_cons_of_mem _ (hp2.perm.symm.subset (List.mem_append_right _ hp3.mem)))
  have h3 := slice_len (hs.wok _ hmem3)
  rw [List.length_map] at h1 h3
  simp only [List.length_cons, List.length_nil] at h2
  rw [nums_len] at hlim
  have hbb : (n + q2) * i.bytes ≤ 140737488355328 := by
    have := Nat.mul_le_mul (show n + q2 ≤ 1073741824 by omega) hb
    omega
  refine opk_append (R := fun s c => ∃ (a' : Option Addr) (c' : Nat), s = putS o.dst (.slice a' (n + q2) c') sl ∧ c = (⟨.slice a' (n + q2) c', 1, R.map encRow ++ [[.slice ra rn rc]]⟩ :: k1)) ho hx hy ht hi hz hsz hzl hlit (by simp [Value.oneCell']) hp1 (by omega) hbb (fun a' c' => ⟨a', c', rfl, rfl⟩) ac w hkn hs K Q ?_
  rintro aa w' _ _ ⟨a', c', rfl, rfl⟩ hk' hs' he'
  have e1 : n + q2 = (nums R ++ [l]).length := by simp [nums_len]; omega
  have e2 : R.map encRow ++ [[.slice ra rn rc]] = (R ++ [(⟨ra, rc, l⟩ : Row)]).map encRow := by simp [encRow, h3]
  have e3 : rowsC (R ++ [(⟨ra, rc, l⟩ : Row)]) = rowsC R ++ [⟨.slice ra rn rc, 1, l.map encI⟩] := by simp [rowsC, rowC, h3]
  rw [e1, e2] at hs' he'
  have pp : (⟨.slice a' (nums R ++ [l]).length c', 1, (R ++ [(⟨ra, rc, l⟩ : Row)]).map encRow⟩ :: k1).Perm (⟨.slice a' (nums R ++ [l]).length c', 1, (R ++ [(⟨ra, rc, l⟩ : Row)]).map encRow⟩ :: (rowsC (R ++ [(⟨ra, rc, l⟩ : Row)]) ++ k3)) := by
    refine List.Perm.cons _ ?_
    rw [e3, List.append_assoc]
    exact hp2.perm.trans (hp3.perm.append_left _)
  have hfin := hR a' c' (R ++ [⟨ra, rc, l⟩]) (by rw [nums_append]; rfl)
  rw [← e1] at hfin hs' he' pp
  exact hK aa w' _ _ hfin hk' (hs'.perm pp) (he'.perm pp)

/-- A row's header. -/
theorem v_ldr {t : TypeId} {x : Operand} {a : Option Addr} {n c j : Nat} {R : List Row} {m : List (List Int)} (hj : j < n) (hm : nums R = m) (hag : ∀ w, (isAgg t).run P w = .ok false w) (ho : o.op = .load t x := by rfl) (hx : kev N sl x = some (adr (.slice a n c) 1 j 0) := by rfl)
    (hmm : (⟨.slice a n c, 1, R.map encRow⟩ : Chunk) ∈ ro ++ ch := by repeat (first | exact mh | apply mt | apply mas | apply ms)) : OpV P N ro ch o sl (.slice (gx R j).a (gx m j).length (gx R j).c) := by
  intro ac w hkn hs
  have hl := slice_len (mem_ok hs hmm)
  rw [List.length_map] at hl
  have := opv_load (P := P) (N := N) (sl := sl) ho hx hag hmm (gx_map (show j < R.length by omega)) (k := 0) (v := .slice (gx R j).a (gx R j).l.length (gx R j).c) rfl ac w hkn hs
  rw [this, ← hm, nums_gx (by omega)]
end
theorem k_lenM {E : Env} {co : Code} {Q : Exit → KPred} {sl : Slots} {ch : List Chunk} {R : List Row} {m : List (List Int)} {a : Option Addr} {n c : Nat} (hm : nums R = m) (h : n = m.length → KWp E co Q sl ch)
    (hmm : (⟨.slice a n c, 1, R.map encRow⟩ : Chunk) ∈ E.ro ++ ch := by repeat (first | exact mh | apply mt | apply mas | apply ms)) : KWp E co Q sl ch := kwp_len hmm (fun hn => h (by rw [hn, List.length_map, ← hm, nums_len]))
/-- A nil slice of slices. -/
theorem kops_nilM {E : Env} {ops : Array Oper} {Q : Exit → KPred} {l : List Oper} {sl : Slots} {ch : List Chunk} (h : ∀ R, nums R = [] → KOps E ops Q l sl (⟨.slice none 0 0, 1, R.map encRow⟩ :: (rowsC R ++ ch))) : KOps E ops Q l sl ch := kops_nilchunk 1 (by decide) (h [] rfl)
theorem kwp_nilM {E : Env} {c : Code} {Q : Exit → KPred} {sl : Slots} {ch : List Chunk} (h : ∀ R, nums R = [] → KWp E c Q sl (⟨.slice none 0 0, 1, R.map encRow⟩ :: (rowsC R ++ ch))) : KWp E c Q sl ch := kwp_nil 1 (by decide) (h [] rfl)
end Go.Proofs.YtpfijnklnljccaaDoor
