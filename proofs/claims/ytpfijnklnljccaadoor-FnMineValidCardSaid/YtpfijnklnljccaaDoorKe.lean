/- A rule for regions whose order is left open is proved here: one walk in one order serves every order. -/
import Derived.Test.YtpfijnklnljccaaDoorKd
import Derived.OrdersHeld
namespace Go.Proofs.YtpfijnklnljccaaDoor
open Go

section
variable {P : Program} {ops : Array Oper} {Q : Exit → Act → World → Prop} {md : Region.Mode} {S : World → Prop} {fins : List Nat}

/-- Whatever order is picked from here on; `S` holds behind every operation that is not one of the last ones. -/
def wpAnyF (P : Program) (md : Region.Mode) (ops : Array Oper) (Q : Exit → Act → World → Prop) (S : World → Prop) (fins : List Nat) : Nat → Array Bool → Act → World → Prop
  | 0, listed, a, w => Region.ready md ops listed = [] ∧ Q .normal a w
  | fuel + 1, listed, a, w =>
    (Region.ready md ops listed = [] → Q .normal a w) ∧
    ∀ i ∈ Region.ready md ops listed, wpOp P ops Q i (fun a' w' => (i ∉ fins → S w') ∧ wpAnyF P md ops Q S fins fuel (listed.setIfInBounds i true) a' w') a w

theorem wpAny_of_F : ∀ (fuel : Nat) (listed : Array Bool) (a : Act) (w : World), wpAnyF P md ops Q S fins fuel listed a w → wpAny P md ops Q fuel listed a w
  | 0, _, _, _, h => h
  | fuel + 1, _, _, _, h => ⟨h.1, fun i hi => wpOp_mono (fun a' w' h' => wpAny_of_F fuel _ a' w' h'.2) (h.2 i hi)⟩

/-- An operation cannot come up as long as `i` has not. -/
def blk (md : Region.Mode) (ops : Array Oper) (i : Nat) : Nat → Array Bool → Nat → Bool
  | 0, _, _ => false
  | n + 1, listed, j => match ops[j]? with
    | some o => o.after.any fun e => Region.binds md e && (e.on == i || (!listed.getD e.on true && blk md ops i n listed e.on))
    | none => false
theorem blk_not {i n j : Nat} {listed : Array Bool} (h : blk md ops i n listed j = true) (hi : i ∈ Region.ready md ops listed) : j ∉ Region.ready md ops listed := by
  intro hj
  cases n with
  | zero => cases h
  | succ n =>
    obtain ⟨_, o, ho, hall⟩ := mem_ready.1 hj
    simp only [blk, ho, Array.any_eq_true, Bool.and_eq_true, Bool.or_eq_true, beq_iff_eq, Bool.not_eq_true'] at h
    obtain ⟨k, hk, hb, h⟩ := h
    have h1 := hall _ (Array.getElem_mem hk) hb
    rcases h with h | h
    · have h0 := (mem_ready.1 hi).1
      rw [h] at h1
      rcases Nat.lt_or_ge i listed.size with h' | h'
      · simp [h'] at h0 h1; rw [h0] at h1; cases h1
      · simp [Array.getElem?_eq_none h'] at h1
    · have h0 := h.1
      rcases Nat.lt_or_ge (o.after[k]).on listed.size with h' | h'
      · simp [h'] at h0 h1; rw [h0] at h1; cases h1
      · simp [Array.getElem?_eq_none h'] at h1
theorem blk_set {i j : Nat} {listed : Array Bool} (hi : i ∈ Region.ready md ops listed) (hj : j ∈ Region.ready md ops listed) : ∀ {n k : Nat}, blk md ops i n listed k = true → blk md ops i n (listed.setIfInBounds j true) k = true
  | 0, _, h => by cases h
  | n + 1, k, h => by
    simp only [blk] at h ⊢
    split at h
    · rename_i o ho
      simp only [Array.any_eq_true, Bool.and_eq_true, Bool.or_eq_true, beq_iff_eq, Bool.not_eq_true'] at h ⊢
      obtain ⟨q, hq, hb, h⟩ := h
      refine ⟨q, hq, hb, ?_⟩
      rcases h with h | ⟨h1, h2⟩
      · exact .inl h
      · have hne : j ≠ (o.after[q]).on := fun e => blk_not h2 hi (e ▸ hj)
        exact .inr ⟨by rw [getD_set_ne true hne]; exact h1, blk_set hi hj h2⟩
    · cases h
def blkN : Nat := 24

theorem wpAnyF_first {i : Nat} {oi : Oper} {v : Value} (hi : ops[i]? = some oi) (hsel : ∀ (j : Nat) (o : Oper) cs b, ops[j]? = some o → o.op ≠ .select cs b)
    (hQ : ∀ c a w, Q (.panic c) (a.put oi.dst v) w → Q (.panic c) a w) :
    ∀ (fuel : Nat) (listed : Array Bool) (a : Act) (w : World),
      (∀ j oj, ops[j]? = some oj → j ≠ i → listed.getD j true = false → (∀ e ∈ oj.after, Region.binds md e = true → e.on ≠ i) → oi.apart ops oj = true ∧ (j ∉ fins ∨ blk md ops i blkN listed j = true)) →
      i ∈ Region.ready md ops listed → YieldsIf P ops S oi v a → S w →
      wpAnyF P md ops Q S fins fuel (listed.setIfInBounds i true) (a.put oi.dst v) w → wpAnyF P md ops Q S fins (fuel + 1) listed a w := by
  intro fuel
  induction fuel with
  | zero =>
    intro listed a w _ hr hy hS H
    refine ⟨fun h => (by rw [h] at hr; cases hr), fun j hj => ?_⟩
    by_cases hji : j = i
    · subst hji; exact hy.wpOp hi hS ⟨fun _ => hS, H⟩
    · have := ready_mono hj hji
      rw [H.1] at this
      cases this
  | succ fuel ih =>
    intro listed a w hfree hr hy hS H
    refine ⟨fun h => (by rw [h] at hr; cases hr), fun j hj => ?_⟩
    by_cases hji : j = i
    · subst hji; exact hy.wpOp hi hS ⟨fun _ => hS, H⟩
    · have h1 := H.2 j (ready_mono hj hji)
      obtain ⟨hjun, oj, hoj, hall⟩ := mem_ready.1 hj
      have hnot : ∀ e ∈ oj.after, Region.binds md e = true → e.on ≠ i := fun e he hb heq => by
        have h1 := hall e he hb
        have h0 := (mem_ready.1 hr).1
        rw [heq] at h1
        rcases Nat.lt_or_ge i listed.size with h' | h'
        · simp [h'] at h0 h1; rw [h0] at h1; cases h1
        · simp [Array.getElem?_eq_none h'] at h1
      obtain ⟨hap, hfin⟩ := hfree j oj hoj hji hjun hnot
      have hfin := hfin.resolve_right (fun hb => blk_not hb hr hj)
      have h2 := wpOp_putIf hoj hap (fun cs b => hsel i oi cs b hi) (fun cs b => hsel j oj cs b hoj) hQ hy h1
      have hfree' : ∀ k ok, ops[k]? = some ok → k ≠ i → (listed.setIfInBounds j true).getD k true = false →
          (∀ e ∈ ok.after, Region.binds md e = true → e.on ≠ i) → oi.apart ops ok = true ∧ (k ∉ fins ∨ blk md ops i blkN (listed.setIfInBounds j true) k = true) := fun k ok hk hki hun hno => by
        have hh := hfree k ok hk hki (by
          by_cases hjk : j = k
          · subst hjk; exact hjun
          · rw [getD_set_ne true hjk] at hun; exact hun) hno
        exact ⟨hh.1, hh.2.imp id (blk_set hr hj)⟩
      refine wpOp_mono (fun a' w' h3 => ⟨h3.2.1, ih (listed.setIfInBounds j true) a' w' hfree' (ready_mono hr (Ne.symm hji)) h3.1 (h3.2.1 hfin) ?_⟩) h2
      rw [Array.setIfInBounds_comm _ _ hji]
      exact h3.2.2

/-- The order in which a region is walked: an index, and whether the operation is taken first although others could come up (true), or it alone can come up (false). -/
def finFree (md : Region.Mode) (ops : Array Oper) (listed : Array Bool) (fins : List Nat) (i : Nat) : Bool :=
  fins.all fun j => j == i || listed.getD j true || blk md ops i blkN listed j || (ops[j]?).isNone

def ordB (md : Region.Mode) (ops : Array Oper) (fins : List Nat) : List (Nat × Bool) → Array Bool → Bool
  | [], listed => Region.ready md ops listed == []
  | (i, true) :: rest, listed => (Region.ready md ops listed).contains i && Region.free md ops listed i && finFree md ops listed fins i && ordB md ops fins rest (listed.setIfInBounds i true)
  | (i, false) :: rest, listed => Region.ready md ops listed == [i] && ordB md ops fins rest (listed.setIfInBounds i true)

end

/-- Behind an operation that is carried out: the chunks of the others stand, or it was a last one. -/
def Held (fins : List Nat) (cq : List Chunk) (i : Nat) (rest : List (Nat × Bool)) (ch : List Chunk) : Prop :=
  Sub cq ch ∨ (i ∈ fins ∧ rest.any (·.2) = false)

/-- The walk in that order: `cq` are the chunks that stand all along. -/
def KSeq (E : Env) (ops : Array Oper) (fins : List Nat) (cq : List Chunk) (Q : Exit → KPred) : List (Nat × Bool) → KPred
  | [], sl, ch => Q .normal sl ch
  | (i, true) :: rest, sl, ch => ∃ oi, ops[i]? = some oi ∧
      ((oi.guard = none ∧ ∃ v, OpV E.P E.N E.ro cq oi sl v ∧ KSeq E ops fins cq Q rest (putS oi.dst v sl) ch) ∨
       (∃ j want d b, oi.guard = some (j, want) ∧ (ops[j]?).bind (·.dst) = some d ∧ kev E.N sl (.tmp d) = some (.bool b) ∧
          (b = want → ∃ v, OpV E.P E.N E.ro cq oi sl v ∧ KSeq E ops fins cq Q rest (putS oi.dst v sl) ch) ∧
          (b = (!want) → KSeq E ops fins cq Q rest (putS oi.dst undef sl) ch)))
  | (i, false) :: rest, sl, ch => ∃ oi, ops[i]? = some oi ∧
      ((oi.guard = none ∧ OpK E.P E.N E.ro oi sl ch (fun sl' ch' => Held fins cq i rest ch' ∧ KSeq E ops fins cq Q rest sl' ch')) ∨
       (∃ j want d b, oi.guard = some (j, want) ∧ (ops[j]?).bind (·.dst) = some d ∧ kev E.N sl (.tmp d) = some (.bool b) ∧
          (b = want → OpK E.P E.N E.ro oi sl ch (fun sl' ch' => Held fins cq i rest ch' ∧ KSeq E ops fins cq Q rest sl' ch')) ∧
          (b = (!want) → Held fins cq i rest ch ∧ KSeq E ops fins cq Q rest (putS oi.dst undef sl) ch)))

theorem yielded_of {E : Env} {ops : Array Oper} {sl : Slots} {a : Act} {j d : Nat} {b : Bool} (hk : Kn a E.N sl) (hj : (ops[j]?).bind (·.dst) = some d) (hb : kev E.N sl (.tmp d) = some (.bool b)) :
    yielded ops a.tmps j = some b := by
  have hv := hk.ev hb
  have hlt : d < a.tmps.size := by
    rw [hk.size]
    simp only [kev] at hb
    split at hb
    · rename_i e; simpa [Nat.blt_eq] using e
    · cases hb
  simp only [yielded, hj, Option.bind_some]
  have : a.tmps[d]? = some (.bool b) := by
    simp only [Act.eval] at hv
    rw [Array.getElem?_eq_getElem hlt]
    simpa [Array.getD, hlt] using hv
  rw [this]

theorem kseq_sound {E : Env} {ops : Array Oper} {fins : List Nat} {cq : List Chunk} {Q : Exit → KPred} (hs : Region.noSelect ops = true) (hQ : ∀ c s h, ¬ Q (.panic c) s h) :
    ∀ (ord : List (Nat × Bool)) (listed : Array Bool) (sl : Slots) (ch : List Chunk) (a : Act) (w : World), ordB .any ops fins ord listed = true →
      KSeq E ops fins cq Q ord sl ch → In E sl ch a w → (ord.any (·.2) = true → Sub cq ch) → wpAnyF E.P .any ops (post E Q) (fun w => St w E.ro cq) fins ord.length listed a w
  | [], listed, sl, ch, a, w, hB, h, hi, _ => ⟨by simpa [ordB] using hB, sl, ch, h, hi⟩
  | (i, true) :: rest, listed, sl, ch, a, w, hB, h, hi, hcq => by
    simp only [ordB, Bool.and_eq_true] at hB
    obtain ⟨⟨⟨hr, hf⟩, hff⟩, hB'⟩ := hB
    obtain ⟨oi, hoi, h⟩ := h
    have hsub : Sub cq ch := hcq (by simp)
    have hQ' : ∀ v c a w, post E Q (.panic c) (a.put oi.dst v) w → post E Q (.panic c) a w := fun v c a w ⟨s, cc, q, _⟩ => (hQ _ _ _ q).elim
    have hS : St w E.ro cq := hi.st.sub hsub
    have hfree : ∀ j oj, ops[j]? = some oj → j ≠ i → listed.getD j true = false → (∀ e ∈ oj.after, Region.binds .any e = true → e.on ≠ i) → oi.apart ops oj = true ∧ (j ∉ fins ∨ blk .any ops i blkN listed j = true) := by
      intro j oj hj hne hun hno
      refine ⟨Region.free_spec hoi hf j oj hj hne hun hno, ?_⟩
      by_cases hjf : j ∈ fins
      · have := List.all_eq_true.1 hff j hjf
        simp only [hun, hj, Bool.or_eq_true, beq_iff_eq, Option.isNone_some, Bool.false_eq_true, or_false] at this
        exact .inr (this.resolve_left hne)
      · exact .inl hjf
    have key : ∀ v, YieldsIf E.P ops (fun w => St w E.ro cq) oi v a → KSeq E ops fins cq Q rest (putS oi.dst v sl) ch →
        wpAnyF E.P .any ops (post E Q) (fun w => St w E.ro cq) fins (rest.length + 1) listed a w := fun v hy hk =>
      wpAnyF_first hoi (Region.noSelect_spec hs) (hQ' v) _ _ _ _ hfree (by simpa using hr) hy hS
        (kseq_sound hs hQ rest _ _ _ _ _ hB' hk ⟨hi.kn.put _ _, hi.st, hi.ext⟩ (fun _ => hsub))
    rcases h with ⟨hg, v, hv, hk⟩ | ⟨j, want, d, b, hg, hj, hb, hy, hn⟩
    · exact key v (.inl ⟨by simp [Region.wanted, hg], fun w' hw' => hv a w' hi.kn hw'⟩) hk
    · have hyl := yielded_of hi.kn hj hb
      by_cases e : b = want
      · obtain ⟨v, hv, hk⟩ := hy e
        exact key v (.inl ⟨by simp [Region.wanted, hg, hyl, e], fun w' hw' => hv a w' hi.kn hw'⟩) hk
      · exact key undef (.inr ⟨by simp [Region.wanted, hg, hyl, e], rfl⟩) (hn (by cases b <;> cases want <;> simp_all))
  | (i, false) :: rest, listed, sl, ch, a, w, hB, h, hi, hcq => by
    simp only [ordB, Bool.and_eq_true, beq_iff_eq] at hB
    obtain ⟨hr, hB'⟩ := hB
    obtain ⟨oi, hoi, h⟩ := h
    refine ⟨fun h0 => (by rw [hr] at h0; cases h0), fun j hj => ?_⟩
    rw [hr, List.mem_singleton] at hj
    subst hj
    have hnext : ∀ (sl' : Slots) (ch' : List Chunk) (a' : Act) (w' : World), Held fins cq j rest ch' → KSeq E ops fins cq Q rest sl' ch' → In E sl' ch' a' w' →
        (j ∉ fins → St w' E.ro cq) ∧ wpAnyF E.P .any ops (post E Q) (fun w => St w E.ro cq) fins rest.length (listed.setIfInBounds j true) a' w' := by
      intro sl' ch' a' w' hh hk hi'
      refine ⟨fun hnf => ?_, kseq_sound hs hQ rest _ _ _ _ _ hB' hk hi' (fun hany => ?_)⟩
      · rcases hh with h | h
        · exact hi'.st.sub h
        · exact absurd h.1 hnf
      · rcases hh with h | h
        · exact h
        · rw [h.2] at hany; cases hany
    unfold wpOp
    simp only [hoi]
    rcases h with ⟨hg, hk⟩ | ⟨j', want, d, b, hg, hj', hb, hy, hn⟩
    · rw [if_pos (by simp [Region.wanted, hg])]
      exact .inl (hk a w hi.kn hi.st _ _ fun a' w' sl' ch' hR hkn hst hext => hnext _ _ _ _ hR.1 hR.2 ⟨hkn, hst, hi.ext.trans hext⟩)
    · have hyl := yielded_of hi.kn hj' hb
      by_cases e : b = want
      · rw [if_pos (by simp [Region.wanted, hg, hyl, e])]
        exact .inl (hy e a w hi.kn hi.st _ _ fun a' w' sl' ch' hR hkn hst hext => hnext _ _ _ _ hR.1 hR.2 ⟨hkn, hst, hi.ext.trans hext⟩)
      · rw [if_neg (by simp [Region.wanted, hg, hyl, e])]
        obtain ⟨h1, h2⟩ := hn (by cases b <;> cases want <;> simp_all)
        exact hnext _ _ _ _ h1 h2 ⟨hi.kn.put _ _, hi.st, hi.ext⟩

theorem St.drew {w : World} {ro ch : List Chunk} (h : St w ro ch) : St { w with drawn := w.drawn + 1 } ro ch :=
  ⟨fun c hc => (h.rok c hc).same (fun _ _ => rfl), fun c hc => (h.wok c hc).same (fun _ _ => rfl), h.pw, h.rs⟩

theorem kwp_draw {E : Env} {id : Nat} {l : List Oper} {Q : Exit → KPred} {sl : Slots} {ch : List Chunk} (ord : List (Nat × Bool)) (fins : List Nat) (cq : List Chunk)
    (hm : E.P.follows .mixedOrders = true) (hB : (Region.noSelect l.toArray && ordB .any l.toArray fins ord (Array.replicate l.toArray.size false) && (ord.length == l.toArray.size)) = true)
    (hQ : ∀ c s h, ¬ Q (.panic c) s h) (hq : Sub cq ch) (h : KSeq E l.toArray fins cq Q ord sl ch) : KWp E (.region id l.toArray true) Q sl ch := by
  intro a w hi
  simp only [Bool.and_eq_true, beq_iff_eq] at hB
  refine wp_region_any hm (wpAny_of_F (S := fun w => St w E.ro cq) (fins := fins) _ _ _ _ ?_)
  have hlen : l.toArray.size = ord.length := hB.2.symm
  have hgo := kseq_sound hB.1.1 hQ ord _ sl ch a _ hB.1.2 h ⟨hi.kn, hi.st.drew, ⟨hi.ext.size, hi.ext.keep, hi.ext.from_, hi.ext.env⟩⟩ (fun _ => hq)
  rw [← hlen] at hgo
  exact hgo

theorem bne_both {b want : Bool} (h : b = want) (g : b = !want) : False := by subst h; cases b <;> cases g

theorem bne_both' {b want : Bool} (h : b = !want) (g : b = want) : False := bne_both g h

/-! The steps of such a walk. -/
section
variable {E : Env} {ops : Array Oper} {fins : List Nat} {cq : List Chunk} {Q : Exit → KPred} {i : Nat} {rest : List (Nat × Bool)} {oi : Oper} {sl : Slots} {ch : List Chunk}

theorem ks_nil (h : Q .normal sl ch) : KSeq E ops fins cq Q [] sl ch := h

theorem ks_v {v : Value} (hi : ops[i]? = some oi) (hg : oi.guard = none) (hv : OpV E.P E.N E.ro cq oi sl v) (h : KSeq E ops fins cq Q rest (putS oi.dst v sl) ch) : KSeq E ops fins cq Q ((i, true) :: rest) sl ch :=
  ⟨oi, hi, .inl ⟨hg, v, hv, h⟩⟩

theorem ks_gv {v : Value} {j d : Nat} {want b : Bool} (hi : ops[i]? = some oi) (hg : oi.guard = some (j, want)) (hj : (ops[j]?).bind (·.dst) = some d) (hb : kev E.N sl (.tmp d) = some (.bool b)) (hbw : b = want)
    (hv : OpV E.P E.N E.ro cq oi sl v) (h : KSeq E ops fins cq Q rest (putS oi.dst v sl) ch) : KSeq E ops fins cq Q ((i, true) :: rest) sl ch :=
  ⟨oi, hi, .inr ⟨j, want, d, b, hg, hj, hb, fun _ => ⟨v, hv, h⟩, fun h2 => (bne_both hbw h2).elim⟩⟩

theorem ks_skip {q : Bool} {j d : Nat} {want b : Bool} (hi : ops[i]? = some oi) (hg : oi.guard = some (j, want)) (hj : (ops[j]?).bind (·.dst) = some d) (hb : kev E.N sl (.tmp d) = some (.bool b)) (hbw : b = !want)
    (hh : Sub cq ch) (h : KSeq E ops fins cq Q rest (putS oi.dst undef sl) ch) : KSeq E ops fins cq Q ((i, q) :: rest) sl ch := by
  cases q with
  | true => exact ⟨oi, hi, .inr ⟨j, want, d, b, hg, hj, hb, fun h2 => (bne_both' hbw h2).elim, fun _ => h⟩⟩
  | false => exact ⟨oi, hi, .inr ⟨j, want, d, b, hg, hj, hb, fun h2 => (bne_both' hbw h2).elim, fun _ => ⟨.inl hh, h⟩⟩⟩

theorem ks_k (hi : ops[i]? = some oi) (hg : oi.guard = none) (h : OpK E.P E.N E.ro oi sl ch (fun sl' ch' => Held fins cq i rest ch' ∧ KSeq E ops fins cq Q rest sl' ch')) : KSeq E ops fins cq Q ((i, false) :: rest) sl ch :=
  ⟨oi, hi, .inl ⟨hg, h⟩⟩

theorem ks_gk {j d : Nat} {want b : Bool} (hi : ops[i]? = some oi) (hg : oi.guard = some (j, want)) (hj : (ops[j]?).bind (·.dst) = some d) (hb : kev E.N sl (.tmp d) = some (.bool b)) (hbw : b = want)
    (h : OpK E.P E.N E.ro oi sl ch (fun sl' ch' => Held fins cq i rest ch' ∧ KSeq E ops fins cq Q rest sl' ch')) : KSeq E ops fins cq Q ((i, false) :: rest) sl ch :=
  ⟨oi, hi, .inr ⟨j, want, d, b, hg, hj, hb, fun _ => h, fun h2 => (bne_both hbw h2).elim⟩⟩
end
end Go.Proofs.YtpfijnklnljccaaDoor
