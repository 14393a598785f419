/- Regions of which several operations may come up: every order is walked, as a tree. -/
import Derived.Test.YtpfijnklnljccaaDoorKg
namespace Go.Proofs.YtpfijnklnljccaaDoor
open Go
set_option linter.unusedVariables false
set_option linter.unusedSimpArgs false

/-- The orders of a region: an operation that only reads, one that alone comes up, or two or three of which each may come up. -/
inductive OT where
  | stop : OT
  | quiet (i : Nat) (t : OT) : OT
  | one (i : Nat) (t : OT) : OT
  | two (i : Nat) (t : OT) (j : Nat) (u : OT) : OT
  | three (i : Nat) (t : OT) (j : Nat) (u : OT) (k : Nat) (v : OT) : OT

def OT.len : OT → Nat
  | .stop => 0
  | .quiet _ t => t.len + 1
  | .one _ t => t.len + 1
  | .two _ t _ _ => t.len + 1
  | .three _ t _ _ _ _ => t.len + 1

def OT.noQ : OT → Bool
  | .stop => true
  | .quiet _ _ => false
  | .one _ t => t.noQ
  | .two _ t _ u => t.noQ && u.noQ
  | .three _ t _ u _ v => t.noQ && (u.noQ && v.noQ)

def ordT (md : Region.Mode) (ops : Array Oper) (fins : List Nat) : OT → Array Bool → Bool
  | .stop, listed => Region.ready md ops listed == []
  | .quiet i t, listed => (Region.ready md ops listed).contains i && Region.free md ops listed i && finFree md ops listed fins i && ordT md ops fins t (listed.setIfInBounds i true)
  | .one i t, listed => Region.ready md ops listed == [i] && ordT md ops fins t (listed.setIfInBounds i true)
  | .two i t j u, listed => Region.ready md ops listed == [i, j] && (t.len == u.len) && ordT md ops fins t (listed.setIfInBounds i true) && ordT md ops fins u (listed.setIfInBounds j true)
  | .three i t j u k v, listed => Region.ready md ops listed == [i, j, k] && (t.len == u.len) && (t.len == v.len) && ordT md ops fins t (listed.setIfInBounds i true) && ordT md ops fins u (listed.setIfInBounds j true) && ordT md ops fins v (listed.setIfInBounds k true)

def HeldT (fins : List Nat) (cq : List Chunk) (i : Nat) (nq : Bool) (ch : List Chunk) : Prop :=
  Sub cq ch ∨ (i ∈ fins ∧ nq = true)

def KLoud (E : Env) (ops : Array Oper) (fins : List Nat) (cq : List Chunk) (i : Nat) (nq : Bool) (R : KPred) : KPred := fun sl ch => ∃ oi, ops[i]? = some oi ∧
      ((oi.guard = none ∧ OpK E.P E.N E.ro oi sl ch (fun sl' ch' => HeldT fins cq i nq ch' ∧ R sl' ch')) ∨
       (∃ j want d b, oi.guard = some (j, want) ∧ (ops[j]?).bind (·.dst) = some d ∧ kev E.N sl (.tmp d) = some (.bool b) ∧
          (b = want → OpK E.P E.N E.ro oi sl ch (fun sl' ch' => HeldT fins cq i nq ch' ∧ R sl' ch')) ∧
          (b = (!want) → HeldT fins cq i nq ch ∧ R (putS oi.dst undef sl) ch)))

def KTree (E : Env) (ops : Array Oper) (fins : List Nat) (cq : List Chunk) (Q : Exit → KPred) : OT → KPred
  | .stop, sl, ch => Q .normal sl ch
  | .quiet i t, sl, ch => ∃ oi, ops[i]? = some oi ∧
      ((oi.guard = none ∧ ∃ v, OpV E.P E.N E.ro cq oi sl v ∧ KTree E ops fins cq Q t (putS oi.dst v sl) ch) ∨
       (∃ j want d b, oi.guard = some (j, want) ∧ (ops[j]?).bind (·.dst) = some d ∧ kev E.N sl (.tmp d) = some (.bool b) ∧
          (b = want → ∃ v, OpV E.P E.N E.ro cq oi sl v ∧ KTree E ops fins cq Q t (putS oi.dst v sl) ch) ∧
          (b = (!want) → KTree E ops fins cq Q t (putS oi.dst undef sl) ch)))
  | .one i t, sl, ch => KLoud E ops fins cq i t.noQ (KTree E ops fins cq Q t) sl ch
  | .two i t j u, sl, ch => KLoud E ops fins cq i t.noQ (KTree E ops fins cq Q t) sl ch ∧ KLoud E ops fins cq j u.noQ (KTree E ops fins cq Q u) sl ch
  | .three i t j u k v, sl, ch => KLoud E ops fins cq i t.noQ (KTree E ops fins cq Q t) sl ch ∧ KLoud E ops fins cq j u.noQ (KTree E ops fins cq Q u) sl ch ∧ KLoud E ops fins cq k v.noQ (KTree E ops fins cq Q v) sl ch

theorem loud_sound {E : Env} {ops : Array Oper} {fins : List Nat} {cq : List Chunk} {Q : Exit → KPred} {i n : Nat} {nq : Bool} {R : KPred} {listed : Array Bool} {sl : Slots} {ch : List Chunk} {a : Act} {w : World}
    (go : ∀ (sl' : Slots) (ch' : List Chunk) (a' : Act) (w' : World), R sl' ch' → In E sl' ch' a' w' → (nq = false → Sub cq ch') → wpAnyF E.P .any ops (post E Q) (fun w => St w E.ro cq) fins n (listed.setIfInBounds i true) a' w')
    (h : KLoud E ops fins cq i nq R sl ch) (hi : In E sl ch a w) :
    wpOp E.P ops (post E Q) i (fun a' w' => (i ∉ fins → St w' E.ro cq) ∧ wpAnyF E.P .any ops (post E Q) (fun w => St w E.ro cq) fins n (listed.setIfInBounds i true) a' w') a w := by
  obtain ⟨oi, hoi, h⟩ := h
  have hnext : ∀ (sl' : Slots) (ch' : List Chunk) (a' : Act) (w' : World), HeldT fins cq i nq ch' → R sl' ch' → In E sl' ch' a' w' →
      (i ∉ fins → St w' E.ro cq) ∧ wpAnyF E.P .any ops (post E Q) (fun w => St w E.ro cq) fins n (listed.setIfInBounds i true) a' w' := by
    intro sl' ch' a' w' hh hk hi'
    refine ⟨fun hnf => ?_, go _ _ _ _ hk hi' (fun hany => ?_)⟩
    · rcases hh with h | h
      · exact hi'.st.sub h
      · exact absurd h.1 hnf
    · rcases hh with h | h
      · exact h
      · rw [h.2] at hany; cases hany
  unfold wpOp
  simp only [hoi]
  rcases h with ⟨hg, hk⟩ | ⟨j', want, d, b, hg, hj', hb, hy, hn⟩
  · rw [if_pos (by simp [Region.wanted, hg])]
    exact .inl (hk a w hi.kn hi.st _ _ fun a' w' sl' ch' hR hkn hst hext => hnext _ _ _ _ hR.1 hR.2 ⟨hkn, hst, hi.ext.trans hext⟩)
  · have hyl := yielded_of hi.kn hj' hb
    by_cases e : b = want
    · rw [if_pos (by simp [Region.wanted, hg, hyl, e])]
      exact .inl (hy e a w hi.kn hi.st _ _ fun a' w' sl' ch' hR hkn hst hext => hnext _ _ _ _ hR.1 hR.2 ⟨hkn, hst, hi.ext.trans hext⟩)
    · rw [if_neg (by simp [Region.wanted, hg, hyl, e])]
      obtain ⟨h1, h2⟩ := hn (by cases b <;> cases want <;> simp_all)
      exact hnext _ _ _ _ h1 h2 ⟨hi.kn.put _ _, hi.st, hi.ext⟩

theorem ktree_sound {E : Env} {ops : Array Oper} {fins : List Nat} {cq : List Chunk} {Q : Exit → KPred} (hs : Region.noSelect ops = true) (hQ : ∀ c s h, ¬ Q (.panic c) s h) :
    ∀ (t : OT) (listed : Array Bool) (sl : Slots) (ch : List Chunk) (a : Act) (w : World), ordT .any ops fins t listed = true →
      KTree E ops fins cq Q t sl ch → In E sl ch a w → (t.noQ = false → Sub cq ch) → wpAnyF E.P .any ops (post E Q) (fun w => St w E.ro cq) fins t.len listed a w
  | .stop, listed, sl, ch, a, w, hB, h, hi, _ => ⟨by simpa [ordT] using hB, sl, ch, h, hi⟩
  | .quiet i t, listed, sl, ch, a, w, hB, h, hi, hcq => by
    simp only [ordT, Bool.and_eq_true] at hB
    obtain ⟨⟨⟨hr, hf⟩, hff⟩, hB'⟩ := hB
    obtain ⟨oi, hoi, h⟩ := h
    have hsub : Sub cq ch := hcq rfl
    have hQ' : ∀ v c a w, post E Q (.panic c) (a.put oi.dst v) w → post E Q (.panic c) a w := fun v c a w ⟨s, cc, q, _⟩ => (hQ _ _ _ q).elim
    have hS : St w E.ro cq := hi.st.sub hsub
    have hfree : ∀ j oj, ops[j]? = some oj → j ≠ i → listed.getD j true = false → (∀ e ∈ oj.after, Region.binds .any e = true → e.on ≠ i) → oi.apart ops oj = true ∧ (j ∉ fins ∨ blk .any ops i blkN listed j = true) := by
      intro j oj hj hne hun hno
      refine ⟨Region.free_spec hoi hf j oj hj hne hun hno, ?_⟩
      by_cases hjf : j ∈ fins
      · have := List.all_eq_true.1 hff j hjf
        simp only [hun, hj, Bool.or_eq_true, beq_iff_eq, Option.isNone_some, Bool.false_eq_true, or_false] at this
        exact .inr (this.resolve_left hne)
      · exact .inl hjf
    have key : ∀ v, YieldsIf E.P ops (fun w => St w E.ro cq) oi v a → KTree E ops fins cq Q t (putS oi.dst v sl) ch →
        wpAnyF E.P .any ops (post E Q) (fun w => St w E.ro cq) fins (t.len + 1) listed a w := fun v hy hk =>
      wpAnyF_first hoi (Region.noSelect_spec hs) (hQ' v) _ _ _ _ hfree (by simpa using hr) hy hS
        (ktree_sound hs hQ t _ _ _ _ _ hB' hk ⟨hi.kn.put _ _, hi.st, hi.ext⟩ (fun _ => hsub))
    rcases h with ⟨hg, v, hv, hk⟩ | ⟨j, want, d, b, hg, hj, hb, hy, hn⟩
    · exact key v (.inl ⟨by simp [Region.wanted, hg], fun w' hw' => hv a w' hi.kn hw'⟩) hk
    · have hyl := yielded_of hi.kn hj hb
      by_cases e : b = want
      · obtain ⟨v, hv, hk⟩ := hy e
        exact key v (.inl ⟨by simp [Region.wanted, hg, hyl, e], fun w' hw' => hv a w' hi.kn hw'⟩) hk
      · exact key undef (.inr ⟨by simp [Region.wanted, hg, hyl, e], rfl⟩) (hn (by cases b <;> cases want <;> simp_all))
  | .one i t, listed, sl, ch, a, w, hB, h, hi, hcq => by
    simp only [ordT, Bool.and_eq_true, beq_iff_eq] at hB
    obtain ⟨hr, hB'⟩ := hB
    refine ⟨fun h0 => (by rw [hr] at h0; cases h0), fun j hj => ?_⟩
    rw [hr, List.mem_singleton] at hj
    subst hj
    exact loud_sound (fun sl' ch' a' w' hk hi' hq => ktree_sound hs hQ t _ _ _ _ _ hB' hk hi' hq) h hi
  | .two i t j u, listed, sl, ch, a, w, hB, h, hi, hcq => by
    simp only [ordT, Bool.and_eq_true, beq_iff_eq] at hB
    obtain ⟨⟨⟨hr, hl⟩, hB'⟩, hB2⟩ := hB
    refine ⟨fun h0 => (by rw [hr] at h0; cases h0), fun k hk => ?_⟩
    rw [hr] at hk
    simp only [List.mem_cons, List.not_mem_nil, or_false] at hk
    rcases hk with rfl | rfl
    · exact loud_sound (fun sl' ch' a' w' hk hi' hq => ktree_sound hs hQ t _ _ _ _ _ hB' hk hi' hq) h.1 hi
    · exact loud_sound (fun sl' ch' a' w' hk hi' hq => by rw [hl]; exact ktree_sound hs hQ u _ _ _ _ _ hB2 hk hi' hq) h.2 hi
  | .three i t j u k v, listed, sl, ch, a, w, hB, h, hi, hcq => by
    simp only [ordT, Bool.and_eq_true, beq_iff_eq] at hB
    obtain ⟨⟨⟨⟨⟨hr, hl⟩, hl2⟩, hB'⟩, hB2⟩, hB3⟩ := hB
    refine ⟨fun h0 => (by rw [hr] at h0; cases h0), fun x hx => ?_⟩
    rw [hr] at hx
    simp only [List.mem_cons, List.not_mem_nil, or_false] at hx
    rcases hx with rfl | rfl | rfl
    · exact loud_sound (fun sl' ch' a' w' hk hi' hq => ktree_sound hs hQ t _ _ _ _ _ hB' hk hi' hq) h.1 hi
    · exact loud_sound (fun sl' ch' a' w' hk hi' hq => by rw [hl]; exact ktree_sound hs hQ u _ _ _ _ _ hB2 hk hi' hq) h.2.1 hi
    · exact loud_sound (fun sl' ch' a' w' hk hi' hq => by rw [hl2]; exact ktree_sound hs hQ v _ _ _ _ _ hB3 hk hi' hq) h.2.2 hi

theorem kwp_tree {E : Env} {id : Nat} {l : List Oper} {Q : Exit → KPred} {sl : Slots} {ch : List Chunk} (t : OT) (fins : List Nat) (cq : List Chunk)
    (hm : E.P.follows .mixedOrders = true) (hB : (Region.noSelect l.toArray && ordT .any l.toArray fins t (Array.replicate l.toArray.size false) && (t.len == l.toArray.size)) = true)
    (hQ : ∀ c s h, ¬ Q (.panic c) s h) (hq : Sub cq ch) (h : KTree E l.toArray fins cq Q t sl ch) : KWp E (.region id l.toArray true) Q sl ch := by
  intro a w hi
  simp only [Bool.and_eq_true, beq_iff_eq] at hB
  refine wp_region_any hm (wpAny_of_F (S := fun w => St w E.ro cq) (fins := fins) _ _ _ _ ?_)
  have hlen : l.toArray.size = t.len := hB.2.symm
  have hgo := ktree_sound hB.1.1 hQ t _ sl ch a _ hB.1.2 h ⟨hi.kn, hi.st.drew, ⟨hi.ext.size, hi.ext.keep, hi.ext.from_, hi.ext.env⟩⟩ (fun _ => hq)
  rw [← hlen] at hgo
  exact hgo

/-! The steps of such a walk. -/
section
variable {E : Env} {ops : Array Oper} {fins : List Nat} {cq : List Chunk} {Q : Exit → KPred} {i : Nat} {t : OT} {oi : Oper} {sl : Slots} {ch : List Chunk} {nq : Bool} {R : KPred}

theorem kt_nil (h : Q .normal sl ch) : KTree E ops fins cq Q .stop sl ch := h
theorem kt_two {j : Nat} {u : OT} (h : KLoud E ops fins cq i t.noQ (KTree E ops fins cq Q t) sl ch) (h2 : KLoud E ops fins cq j u.noQ (KTree E ops fins cq Q u) sl ch) : KTree E ops fins cq Q (.two i t j u) sl ch := ⟨h, h2⟩
theorem kt_three {j k : Nat} {u v : OT} (h : KLoud E ops fins cq i t.noQ (KTree E ops fins cq Q t) sl ch) (h2 : KLoud E ops fins cq j u.noQ (KTree E ops fins cq Q u) sl ch) (h3 : KLoud E ops fins cq k v.noQ (KTree E ops fins cq Q v) sl ch) : KTree E ops fins cq Q (.three i t j u k v) sl ch := ⟨h, h2, h3⟩
theorem kt_one (h : KLoud E ops fins cq i t.noQ (KTree E ops fins cq Q t) sl ch) : KTree E ops fins cq Q (.one i t) sl ch := h

theorem kt_v {v : Value} (hi : ops[i]? = some oi) (hg : oi.guard = none) (hv : OpV E.P E.N E.ro cq oi sl v) (h : KTree E ops fins cq Q t (putS oi.dst v sl) ch) : KTree E ops fins cq Q (.quiet i t) sl ch :=
  ⟨oi, hi, .inl ⟨hg, v, hv, h⟩⟩
theorem kt_d {v : Value} {d : Nat} (hi : ops[i]? = some oi) (hg : oi.guard = none) (hd : oi.dst = some d) (hv : OpV E.P E.N E.ro cq oi sl v) (h : KTree E ops fins cq Q t ((d, v) :: sl) ch) : KTree E ops fins cq Q (.quiet i t) sl ch :=
  kt_v hi hg hv (by rw [hd]; exact h)
theorem kt_gv {v : Value} {j d : Nat} {want b : Bool} (hi : ops[i]? = some oi) (hg : oi.guard = some (j, want)) (hj : (ops[j]?).bind (·.dst) = some d) (hb : kev E.N sl (.tmp d) = some (.bool b)) (hbw : b = want)
    (hv : OpV E.P E.N E.ro cq oi sl v) (h : KTree E ops fins cq Q t (putS oi.dst v sl) ch) : KTree E ops fins cq Q (.quiet i t) sl ch :=
  ⟨oi, hi, .inr ⟨j, want, d, b, hg, hj, hb, fun _ => ⟨v, hv, h⟩, fun h2 => (bne_both hbw h2).elim⟩⟩
theorem kt_skip {j d : Nat} {want b : Bool} (hi : ops[i]? = some oi) (hg : oi.guard = some (j, want)) (hj : (ops[j]?).bind (·.dst) = some d) (hb : kev E.N sl (.tmp d) = some (.bool b)) (hbw : b = !want)
    (h : KTree E ops fins cq Q t (putS oi.dst undef sl) ch) : KTree E ops fins cq Q (.quiet i t) sl ch :=
  ⟨oi, hi, .inr ⟨j, want, d, b, hg, hj, hb, fun h2 => (bne_both' hbw h2).elim, fun _ => h⟩⟩
theorem kl_skip {j d : Nat} {want b : Bool} (hi : ops[i]? = some oi) (hg : oi.guard = some (j, want)) (hj : (ops[j]?).bind (·.dst) = some d) (hb : kev E.N sl (.tmp d) = some (.bool b)) (hbw : b = !want)
    (hh : Sub cq ch) (h : R (putS oi.dst undef sl) ch) : KLoud E ops fins cq i nq R sl ch :=
  ⟨oi, hi, .inr ⟨j, want, d, b, hg, hj, hb, fun h2 => (bne_both' hbw h2).elim, fun _ => ⟨.inl hh, h⟩⟩⟩
theorem kl_k (hi : ops[i]? = some oi) (hg : oi.guard = none) (h : OpK E.P E.N E.ro oi sl ch (fun sl' ch' => HeldT fins cq i nq ch' ∧ R sl' ch')) : KLoud E ops fins cq i nq R sl ch :=
  ⟨oi, hi, .inl ⟨hg, h⟩⟩
theorem kl_d {v : Value} {d : Nat} (hi : ops[i]? = some oi) (hg : oi.guard = none) (hd : oi.dst = some d) (hh : Sub cq ch) (hv : OpV E.P E.N E.ro ch oi sl v) (h : R ((d, v) :: sl) ch) : KLoud E ops fins cq i nq R sl ch :=
  kl_k hi hg (opk_of_opv hv ⟨.inl hh, by rw [hd]; exact h⟩)
theorem kl_df {v : Value} {d : Nat} (hi : ops[i]? = some oi) (hg : oi.guard = none) (hd : oi.dst = some d) (hf : i ∈ fins) (hn : nq = true) (hv : OpV E.P E.N E.ro ch oi sl v) (h : R ((d, v) :: sl) ch) : KLoud E ops fins cq i nq R sl ch :=
  kl_k hi hg (opk_of_opv hv ⟨.inr ⟨hf, hn⟩, by rw [hd]; exact h⟩)
theorem kl_gk {j d : Nat} {want b : Bool} (hi : ops[i]? = some oi) (hg : oi.guard = some (j, want)) (hj : (ops[j]?).bind (·.dst) = some d) (hb : kev E.N sl (.tmp d) = some (.bool b)) (hbw : b = want)
    (h : OpK E.P E.N E.ro oi sl ch (fun sl' ch' => HeldT fins cq i nq ch' ∧ R sl' ch')) : KLoud E ops fins cq i nq R sl ch :=
  ⟨oi, hi, .inr ⟨j, want, d, b, hg, hj, hb, fun _ => h, fun h2 => (bne_both hbw h2).elim⟩⟩
theorem kt_dk {v : Value} {d : Nat} (hi : ops[i]? = some oi) (hg : oi.guard = none) (hd : oi.dst = some d) (hh : Sub cq ch) (hv : OpV E.P E.N E.ro ch oi sl v) (h : KTree E ops fins cq Q t ((d, v) :: sl) ch) : KTree E ops fins cq Q (.one i t) sl ch :=
  kl_k hi hg (opk_of_opv hv ⟨.inl hh, by rw [hd]; exact h⟩)
theorem ks_dk {rest : List (Nat × Bool)} {v : Value} {d : Nat} (hi : ops[i]? = some oi) (hg : oi.guard = none) (hd : oi.dst = some d) (hh : Sub cq ch) (hv : OpV E.P E.N E.ro ch oi sl v) (h : KSeq E ops fins cq Q rest ((d, v) :: sl) ch) : KSeq E ops fins cq Q ((i, false) :: rest) sl ch :=
  ks_k hi hg (opk_of_opv hv ⟨.inl hh, by rw [hd]; exact h⟩)
theorem ktree_split (x : Nat) {b : Bool} (_hb : kev E.N sl (.tmp x) = some (.bool b)) (ht : b = true → KTree E ops fins cq Q t sl ch) (hf : b = false → KTree E ops fins cq Q t sl ch) : KTree E ops fins cq Q t sl ch := by
  cases b
  · exact hf rfl
  · exact ht rfl
end
end Go.Proofs.YtpfijnklnljccaaDoor
