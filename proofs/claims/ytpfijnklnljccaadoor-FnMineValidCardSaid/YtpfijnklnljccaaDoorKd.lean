/- Rules for slices that are made, cut and appended to are proved here; the sizes are bounded where Go's memory bounds them. -/
import Derived.Test.YtpfijnklnljccaaDoorKc
namespace Go.Proofs.YtpfijnklnljccaaDoor
open Go

/-- A part of a slice. -/
theorem Chunk.ok.cut {w : World} {rw : Bool} {a : Option Addr} {n c sz l h : Nat} {es : List (List Value)} (hk : (⟨.slice a n c, sz, es⟩ : Chunk).ok w rw) (hlh : l ≤ h) (hn : h ≤ n) :
    (⟨subS a c sz l h, sz, (es.drop l).take (h - l)⟩ : Chunk).ok w rw ∧ ∀ b, (⟨subS a c sz l h, sz, (es.drop l).take (h - l)⟩ : Chunk).blk = some b → (⟨.slice a n c, sz, es⟩ : Chunk).blk = some b := by
  obtain ⟨h0, h1, h2⟩ := hk
  simp only at h0 h1 h2
  have hall : ∀ e ∈ (es.drop l).take (h - l), e.length = sz := fun e he => h1 e (List.mem_of_mem_drop (List.mem_of_mem_take he))
  cases a with
  | none =>
    obtain ⟨e1, e2, e3⟩ := h2
    subst e1 e2 e3
    have : h = 0 := by omega
    subst this
    have : l = 0 := by omega
    subst this
    exact ⟨⟨h0, by simp, by simp [subS]⟩, by simp [Chunk.blk, blkOf, subS]⟩
  | some ad =>
    obtain ⟨e1, e2, hrow⟩ := h2
    have hlen : ((es.drop l).take (h - l)).length = h - l := by simp; omega
    have hfl := flat_length hall
    by_cases hc0 : c = 0
    · subst hc0
      have hh : h = 0 := by omega
      have hl' : l = 0 := by omega
      subst hh hl'
      refine ⟨⟨h0, by simp, ?_⟩, ?_⟩
      · simp [subS]
      · intro b' hb'; simp [Chunk.blk, blkOf, subS] at hb'
    obtain ⟨hs, arr, el, fz, hh, hfz, hm, hl, hv⟩ := hrow (by omega)
    have hmul : (c - l) * sz + l * sz = c * sz := by rw [← Nat.add_mul]; congr 1; omega
    obtain ⟨b, oo, s⟩ := ad
    simp only at hs hh hm hv
    subst hs
    by_cases hc : c = l
    · have hhl : h - l = 0 := by omega
      refine ⟨⟨h0, hall, ?_⟩, ?_⟩
      · simp only [subS, if_pos hc, hlen]
        exact ⟨trivial, by omega, fun hcl => by omega⟩
      · intro b' hb'
        simp only [Chunk.blk, blkOf, subS, if_pos hc] at hb'
        rw [if_pos (by omega)] at hb'
        cases hb'
    · refine ⟨⟨h0, hall, ?_⟩, ?_⟩
      · simp only [subS, if_neg hc, Option.map_some, hlen, add_mk]
        refine ⟨trivial, by omega, fun _ => ⟨rfl, arr, el, fz, hh, hfz, ?_, ?_, ?_⟩⟩
        · show oo + l * sz + (c - l) * sz ≤ arr.size
          omega
        · rw [hfl, hlen]; exact Nat.mul_le_mul_right _ (by omega)
        · intro j v hj
          have hjl : j < (h - l) * sz := by
            have := (List.getElem?_eq_some_iff.1 hj).1
            rwa [hfl, hlen] at this
          have hd : (es.drop l).flatten[j]? = some v := by
            have : (es.drop l) = (es.drop l).take (h - l) ++ (es.drop l).drop (h - l) := (List.take_append_drop _ _).symm
            rw [this, List.flatten_append, List.getElem?_append_left (by rw [hfl, hlen]; exact hjl)]
            exact hj
          rw [flat_sub h1, List.getElem?_drop] at hd
          have := hv _ v hd
          show arr[oo + l * sz + j]? = some v
          rw [Nat.add_assoc]; exact this
      · intro b' hb'
        simp only [Chunk.blk, blkOf, subS, if_neg hc, Option.map_some, add_mk] at hb' ⊢
        split at hb'
        · cases hb'
        · rw [if_neg hc0]; exact hb'

theorem View.cut {a : Option Addr} {n c sz l h : Nat} {es : List (List Value)} (hlh : l ≤ h) (hn : h ≤ n) : View ⟨.slice a n c, sz, es⟩ ⟨subS a c sz l h, sz, (es.drop l).take (h - l)⟩ :=
  fun _ hk => hk.cut hlh hn

/-- From here on only the part counts. -/
theorem kops_shrink {E : Env} {ops : Array Oper} {Q : Exit → KPred} {ls : List Oper} {sl : Slots} {ch ch' : List Chunk} {a : Option Addr} {n c sz l h : Nat} {es : List (List Value)} (hlh : l ≤ h) (hn : h ≤ n)
    (u : Upd ch ⟨.slice a n c, sz, es⟩ ⟨subS a c sz l h, sz, (es.drop l).take (h - l)⟩ ch') (hR : KOps E ops Q ls sl ch') : KOps E ops Q ls sl ch := by
  intro ac w hi
  have hk := (hi.st.wok _ (upd_mem u)).cut hlh hn
  obtain ⟨s1, s2⟩ := hi.st.upd u hk.1 ⟨rfl, rfl, rfl⟩ (Nat.le_refl _) (fun _ _ _ => rfl) (fun b hb _ => hk.2 b hb)
  exact hR ac w ⟨hi.kn, s1, hi.ext.trans s2⟩

/-- A nil slice is a chunk of nobody's. -/
theorem nil_ok {w : World} {rw : Bool} {sz : Nat} (h : 0 < sz) : (⟨.slice none 0 0, sz, []⟩ : Chunk).ok w rw := ⟨h, by simp, rfl, rfl, rfl⟩

theorem St.nil {w : World} {ro ch : List Chunk} {sz : Nat} (h : St w ro ch) (hp : 0 < sz) : St w ro (⟨.slice none 0 0, sz, []⟩ :: ch) where
  rok := h.rok
  wok c hc := by
    rcases List.mem_cons.1 hc with rfl | hc
    · exact nil_ok hp
    · exact h.wok c hc
  pw := List.pairwise_cons.2 ⟨fun d _ b hb => by simp [Chunk.blk, blkOf] at hb, h.pw⟩
  rs c hc d hd := by
    rcases List.mem_cons.1 hd with rfl | hd
    · exact fun b _ hd => by simp [Chunk.blk, blkOf] at hd
    · exact h.rs c hc d hd

theorem In.nil {E : Env} {sl : Slots} {ch : List Chunk} {a : Act} {w : World} {sz : Nat} (h : In E sl ch a w) (hp : 0 < sz) : In E sl (⟨.slice none 0 0, sz, []⟩ :: ch) a w :=
  ⟨h.kn, h.st.nil hp, ⟨h.ext.size, h.ext.keep, fun c hc b hb hlt => by
    rcases List.mem_cons.1 hc with rfl | hc
    · simp [Chunk.blk, blkOf] at hb
    · exact h.ext.from_ c hc b hb hlt, h.ext.env⟩⟩

theorem kwp_nil {E : Env} {c : Code} {Q : Exit → KPred} {sl : Slots} {ch : List Chunk} (sz : Nat) (hp : 0 < sz) (h : KWp E c Q sl (⟨.slice none 0 0, sz, []⟩ :: ch)) : KWp E c Q sl ch :=
  fun a w hi => h a w (hi.nil hp)

theorem kops_nilchunk {E : Env} {ops : Array Oper} {Q : Exit → KPred} {l : List Oper} {sl : Slots} {ch : List Chunk} (sz : Nat) (hp : 0 < sz) (h : KOps E ops Q l sl (⟨.slice none 0 0, sz, []⟩ :: ch)) : KOps E ops Q l sl ch :=
  fun a w hi => h a w (hi.nil hp)

section
variable {P : Program} {N : Nat} {ro : List Chunk} {o : Oper} {sl : Slots} {ch : List Chunk} {R : KPred}

theorem flat_replicate (z : List Value) (n : Nat) : (List.replicate n z).flatten.length = n * z.length := by
  rw [flat_length (sz := z.length) (fun e he => by rw [List.eq_of_mem_replicate he])]; simp

theorem rep_get {z : List Value} (hz : 0 < z.length) : ∀ (n j : Nat) (v : Value), (List.replicate n z).flatten[j]? = some v → z[j % z.length]? = some v
  | 0, j, v, h => by simp at h
  | n + 1, j, v, h => by
    simp only [List.replicate_succ, List.flatten_cons] at h
    by_cases hj : j < z.length
    · rw [List.getElem?_append_left hj] at h
      rw [Nat.mod_eq_of_lt hj]; exact h
    · rw [List.getElem?_append_right (by omega)] at h
      have := rep_get hz n _ v h
      rw [Nat.mod_eq_sub_mod (by omega)]; exact this

theorem get_zeros {z : Array Value} (hz : 0 < z.size) {n j : Nat} {v : Value} (h : (List.replicate n z.toList).flatten[j]? = some v) : ((Array.range (n * z.size)).map (z[· % z.size]!))[j]? = some v := by
  have hlt := (List.getElem?_eq_some_iff.1 h).1
  rw [flat_replicate] at hlt
  have h2 := rep_get (z := z.toList) (by simpa using hz) n j v h
  have hlt' : j < n * z.size := by simpa using hlt
  have hm : j % z.size < z.size := Nat.mod_lt _ hz
  simp only [Array.length_toList, Array.getElem?_toList] at h2
  rw [Array.getElem?_eq_getElem hm, Option.some.injEq] at h2
  have h3 : z[j % z.size]! = v := by rw [getElem!_pos z (j % z.size) hm]; exact h2
  simp [hlt', h3]

/-- A new slice of zeros. -/
theorem opk_make {t e : TypeId} {x y : Operand} {k k' : IntKind} {n : Int} {i : TypeInfo} {z : Value} {sz : Nat} {zs : List Value} (ho : o.op = .makeSlice t x y) (hx : kev N sl x = some (.int k n)) (hy : kev N sl y = some (.int k' n))
    (ht : P.underlying t = some (.slice e)) (hi : P.info? e = some i) (hz : i.zero = some z) (hsz : i.size = sz)
    (hzs : z.cells.toList = zs) (hzl : zs.length = sz) (hp : 0 < sz) (h0 : 0 ≤ n) (hb : (i.bytes : Int) * n ≤ 281474976710656) (hn : n ≤ 9223372036854775807)
    (hR : ∀ p : Addr, R (putS o.dst (.slice (some p) n.toNat n.toNat) sl) (⟨.slice (some p) n.toNat n.toNat, sz, List.replicate n.toNat zs⟩ :: ch)) : OpK P N ro o sl ch R := by
  intro a w hkn hs K Q hK
  have hzsz : z.cells.size = sz := by have := congrArg List.length hzs; simp at this; omega
  have hr := run_make (P := P) w t e i z ht hi hz k k' n n h0 (Int.le_refl _) hb hn
  rw [hsz] at hr
  have h1 : (execOp a.eval o).run P w = .ok (.value (.slice (some ⟨w.heap.size, 0, none⟩) n.toNat n.toNat)) (w.alloc (.cells (madeCells z.cells (n.toNat * sz)) e)) := by
    unfold execOp
    simp [ho, hkn.ev hx, hkn.ev hy, hr]
  have hget : ∀ (j : Nat) (v : Value), (List.replicate n.toNat zs).flatten[j]? = some v → (madeCells z.cells (n.toNat * sz))[j]? = some v := by
    intro j v hj
    rw [← hzs] at hj
    have := get_zeros (z := z.cells) (by omega) hj
    rw [hzsz] at this
    unfold madeCells
    rw [hzsz]
    exact this
  have hok : (⟨.slice (some ⟨w.heap.size, 0, none⟩) n.toNat n.toNat, sz, List.replicate n.toNat zs⟩ : Chunk).ok (w.alloc (.cells (madeCells z.cells (n.toNat * sz)) e)) true :=
    new_slice_ok hp (fun x hx => by rw [List.eq_of_mem_replicate hx]; exact hzl) (by simp) (Nat.le_refl _) (by rw [size_madeCells]; exact Nat.le_refl _) hget
  obtain ⟨s1, s2⟩ := hs.new hok ⟨rfl, rfl, rfl⟩ (by simp) (fun b hb => alloc_old b hb) (fun b hb => by
    simp only [Chunk.blk, blkOf] at hb
    split at hb
    · cases hb
    · simp only [Option.some.injEq] at hb; omega)
  unfold Oper.wp
  rw [h1]
  exact hK _ _ _ _ (hR _) (hkn.put _ _) s1 s2

theorem fill_all {sz : Nat} : ∀ (vs : List Value) (k : Nat) (cells : Array Value), (∀ v ∈ vs, v.cells.size = sz) → (k + vs.length) * sz ≤ cells.size →
    ∃ out, Instr.fill (fun i => some (i * sz, sz)) cells ((List.range' k vs.length).zip vs) = some out ∧ out.size = cells.size ∧
      (∀ j, j < k * sz → out[j]? = cells[j]?) ∧ (∀ (j : Nat) (u : Value), (vs.map (fun v => v.cells.toList)).flatten[j]? = some u → out[k * sz + j]? = some u)
  | [], k, cells, _, _ => ⟨cells, rfl, rfl, fun _ _ => rfl, fun j u h => by simp at h⟩
  | v :: vs, k, cells, hv, hl => by
    have hvs : v.cells.size = sz := hv v (by simp)
    have hk : k * sz + sz ≤ cells.size := by
      have := Nat.mul_le_mul_right sz (show k + 1 ≤ k + (v :: vs).length by simp)
      rw [Nat.add_mul] at this
      omega
    have hfold : ∀ (l : List Value) (off : Nat) (cs : Array Value), off + l.length ≤ cs.size →
        ∃ out : Array Value, (l.zipIdx.foldl (fun (cs : Array Value) (x : Value × Nat) => cs.setIfInBounds (off + x.2) x.1) cs) = out ∧ out.size = cs.size ∧ (∀ j, j < off → out[j]? = cs[j]?) ∧ (∀ j, off + l.length ≤ j → out[j]? = cs[j]?) ∧ ∀ (j : Nat) (u : Value), l[j]? = some u → out[off + j]? = some u := by
      intro l
      have aux : ∀ (l : List Value) (s off : Nat) (cs : Array Value), off + s + l.length ≤ cs.size →
          ∃ out : Array Value, ((l.zipIdx s).foldl (fun (cs : Array Value) (x : Value × Nat) => cs.setIfInBounds (off + x.2) x.1) cs) = out ∧ out.size = cs.size ∧ (∀ j, j < off + s → out[j]? = cs[j]?) ∧ (∀ j, off + s + l.length ≤ j → out[j]? = cs[j]?) ∧ ∀ (j : Nat) (u : Value), l[j]? = some u → out[off + s + j]? = some u := by
        intro l
        induction l with
        | nil => intro s off cs _; exact ⟨cs, rfl, rfl, fun _ _ => rfl, fun _ _ => rfl, fun j u h => by simp at h⟩
        | cons x l ih =>
          intro s off cs hle
          simp only [List.length_cons] at hle
          obtain ⟨out, h1, h2, h3, h4, h5⟩ := ih (s + 1) off (cs.setIfInBounds (off + s) x) (by simp; omega)
          refine ⟨out, by simpa [List.zipIdx_cons] using h1, by simpa using h2, ?_, ?_, ?_⟩
          · intro j hj
            rw [h3 j (by omega), Array.getElem?_setIfInBounds_ne (by omega)]
          · intro j hj
            simp only [List.length_cons] at hj
            rw [h4 j (by omega), Array.getElem?_setIfInBounds_ne (by omega)]
          · intro j u hj
            cases j with
            | zero =>
              simp only [List.getElem?_cons_zero, Option.some.injEq] at hj
              subst hj
              rw [h3 _ (by omega)]
              simp only [Nat.add_zero]
              rw [Array.getElem?_setIfInBounds_self_of_lt (by omega)]
            | succ j =>
              have := h5 j u (by simpa using hj)
              rw [show off + s + (j + 1) = off + (s + 1) + j by omega]
              exact this
      intro off cs hle
      have := aux l 0 off cs (by omega)
      simpa using this
    obtain ⟨mid, m1, m2, m3, m4, m5⟩ := hfold v.cells.toList (k * sz) cells (by simp; omega)
    obtain ⟨out, o1, o2, o3, o4⟩ := fill_all vs (k + 1) mid (fun x hx => hv x (by simp [hx])) (by simp only [List.length_cons] at hl; rw [m2, show k + 1 + vs.length = k + (vs.length + 1) by omega]; exact hl)
    refine ⟨out, ?_, by rw [o2, m2], ?_, ?_⟩
    · simp only [List.length_cons, List.range'_succ, List.zip_cons_cons, Instr.fill]
      have hcond : (decide (v.cells.size ≠ sz) || decide (k * sz + v.cells.size > cells.size)) = false := by simp [hvs]; omega
      rw [if_neg (by rw [hcond]; simp)]
      have : (v.cells.zipIdx.foldl (fun (cs : Array Value) (x : Value × Nat) => cs.setIfInBounds (k * sz + x.2) x.1) cells) = mid := by
        rw [← m1, ← Array.foldl_toList, Array.toList_zipIdx]
      rw [← o1]
      congr 1
    · intro j hj
      rw [o3 j (by rw [Nat.add_mul]; omega), m3 j hj]
    · intro j u hj
      simp only [List.map_cons, List.flatten_cons] at hj
      by_cases hjv : j < sz
      · rw [List.getElem?_append_left (by simp; omega)] at hj
        rw [o3 _ (by rw [Nat.add_mul]; omega)]
        exact m5 j u hj
      · rw [List.getElem?_append_right (by simp; omega)] at hj
        have := o4 _ u hj
        simp only [Array.length_toList, hvs] at this
        rw [show k * sz + j = (k + 1) * sz + (j - sz) by rw [Nat.add_mul]; omega]
        exact this

/-- A slice literal, all of its elements given in their order. -/
theorem opk_buildSlice {t e : TypeId} {n : Nat} {ps : Array (Nat × Operand)} {vs : List Value} {z : Value} {sz : Nat} (ho : o.op = .buildSlice t n ps)
    (hps : ps.toList.map (fun p => (p.1, kev N sl p.2)) = (List.range' 0 vs.length).zip (vs.map some)) (hn : vs.length = n)
    (hu : ∀ w, (underlying t).run P w = .ok (.slice e) w) (hsz : ∀ w, (sizeOf e).run P w = .ok sz w) (hz : ∀ w, (zeroValue e).run P w = .ok z w) (_hzl : z.cells.size = sz) (hp : 0 < sz)
    (hv : ∀ v ∈ vs, v.cells.size = sz) (hb : n * sz ≤ 16777216)
    (hR : ∀ p : Addr, R (putS o.dst (.slice (some p) n n) sl) (⟨.slice (some p) n n, sz, vs.map (fun v => v.cells.toList)⟩ :: ch)) : OpK P N ro o sl ch R := by
  intro a w hkn hs K Q hK
  have hlist : (ps.map fun p => (p.1, a.eval p.2)).toList = (List.range' 0 vs.length).zip vs := by
    rw [Array.toList_map]
    have : ∀ (l : List (Nat × Operand)) (vs : List Value) (k : Nat), l.map (fun p => (p.1, kev N sl p.2)) = (List.range' k vs.length).zip (vs.map some) → l.map (fun p => (p.1, a.eval p.2)) = (List.range' k vs.length).zip vs := by
      intro l
      induction l with
      | nil => intro vs k h; cases vs <;> simp_all [List.range'_succ]
      | cons q l ih =>
        intro vs k h
        cases vs with
        | nil => simp at h
        | cons v vs =>
          simp only [List.length_cons, List.range'_succ, List.map_cons, List.zip_cons_cons, List.cons.injEq, Prod.mk.injEq] at h ⊢
          exact ⟨⟨h.1.1, hkn.ev h.1.2⟩, ih vs (k + 1) h.2⟩
    exact this _ _ _ hps
  have hparts : (ps.map fun (i, x) => (i, a.eval x)) = ((List.range' 0 vs.length).zip vs).toArray := Array.toList_inj.1 (by simpa using hlist)
  have h0 : execOp a.eval o = (do pure (.value (← Instr.buildSlice t n (ps.map fun (i, x) => (i, a.eval x))))) := by unfold execOp; rw [ho]
  have hlim : ¬ n * sz > 2 ^ 24 := by simp; omega
  obtain ⟨arr, harr, hsize, hget⟩ : ∃ arr : Array Value, (execOp a.eval o).run P w = .ok (.value (.slice (some ⟨w.heap.size, 0, none⟩) n n)) (w.alloc (.cells arr e)) ∧ arr.size = n * sz ∧
      ∀ (j : Nat) (v : Value), (vs.map (fun v => v.cells.toList)).flatten[j]? = some v → arr[j]? = some v := by
    by_cases hn0 : n * sz = 0
    · have hn' : n = 0 := by rcases Nat.mul_eq_zero.1 hn0 with h | h <;> omega
      subst hn'
      have hvs : vs = [] := List.eq_nil_of_length_eq_zero hn
      subst hvs
      refine ⟨#[], ?_, by simp, by simp⟩
      rw [h0, hparts]
      simp [Instr.buildSlice, hu, hsz, Instr.fill, newRow, Array.range_zero']
    · obtain ⟨out, f1, f2, _, f4⟩ := fill_all vs 0 ((Array.range (n * sz)).map (z.cells[· % z.cells.size]!)) hv (by simp [hn])
      refine ⟨out, ?_, by simpa using f2, fun j v hj => by simpa using f4 j v hj⟩
      rw [h0, hparts]
      unfold Instr.buildSlice
      simp only [Sem.run_bind, hu, Result.andThen_ok, hsz, Sem.run_ite, hlim, if_false, hn0, hz, Sem.run_pure]
      rw [f1]
      simp [newRow]
  have hok : (⟨.slice (some ⟨w.heap.size, 0, none⟩) n n, sz, vs.map (fun v => v.cells.toList)⟩ : Chunk).ok (w.alloc (.cells arr e)) true :=
    new_slice_ok hp (fun x hx => by
      obtain ⟨v, hvm, rfl⟩ := List.mem_map.1 hx
      simpa using hv v hvm) (by simp [hn]) (Nat.le_refl _) (by omega) hget
  obtain ⟨s1, s2⟩ := hs.new hok ⟨rfl, rfl, rfl⟩ (by simp) (fun b hb => alloc_old b hb) (fun b hb => by
    simp only [Chunk.blk, blkOf] at hb
    split at hb
    · cases hb
    · simp only [Option.some.injEq] at hb; omega)
  unfold Oper.wp
  rw [harr]
  exact hK _ _ _ _ (hR _) (hkn.put _ _) s1 s2

theorem run_app_room (P : Program) (w : World) {t ty e : TypeId} {i : TypeInfo} (ht : P.underlying t = some (.slice e)) (hi : P.info? e = some i)
    {ad : Addr} {n c m c2 : Nat} {b : Addr} {cs news : List Value} {mm : Nat} (hrow : RowOk w true ad cs mm) (hcs : cs.length = n * i.size) (hmm : (n + m) * i.size ≤ mm) (hl : news.length = m * i.size) (hnews : ∀ j v, news[j]? = some v → w.cell? (b.add j) = some v) (h1 : ∀ u ∈ news, u.oneCell' = true)
    (hroom : n + m ≤ c) :
    ∃ w', (Builtin.append_ #[t, t] ty #[.slice (some ad) n c, .slice (some b) m c2]).run P w = .ok (.slice (some ad) (n + m) c) w' ∧ RowOk w' true ad (cs ++ news) mm ∧ w'.heap.size = w.heap.size ∧ (∀ b, b ≠ ad.block → w'.heap[b]? = w.heap[b]?) ∧ w'.os = w.os ∧ w'.tape = w.tape ∧ w'.output = w.output := by
  have hf := run_firstCells_some (P := P) w i.size m b m c2 news hl hnews
  obtain ⟨hs, arr, el, fz, hh, hfz, hm, hcl, hv⟩ := hrow
  obtain ⟨g, oo, s⟩ := ad
  simp only at hs hh hm hv
  subst hs
  have hfz' := hfz rfl
  subst hfz'
  have hfit : oo + n * i.size + 0 + news.length ≤ arr.size := by
    rw [Nat.add_mul] at hmm
    omega
  have hst := run_storeCells_at P g (oo + n * i.size) el news 0 arr w hh hfit h1
  simp only [Nat.add_zero] at hst
  have hsh : storeCells ((⟨g, oo, none⟩ : Addr).add (n * i.size)) news 0 = storeCells ⟨g, oo + n * i.size, none⟩ news 0 := by rw [add_mk]
  refine ⟨w.setRow g (List.take (oo + n * i.size) arr.toList ++ news ++ List.drop (oo + n * i.size + news.length) arr.toList).toArray, ?_, ⟨rfl, _, el, (0, 0), setRow_heap w g arr _ el _ hh, fun _ => rfl, ?_, ?_, ?_⟩, by simp, fun b hb => setRow_other w g b _ hb, rfl, rfl, rfl⟩
  · simp [Builtin.append_, run_underlying ht, sizeOf, typeInfo, hi, Builtin.lenOf, hroom, hf, hsh, hst]
  · simp only [List.size_toArray, List.length_append, List.length_take, List.length_drop, Array.length_toList]
    omega
  · rw [List.length_append, hcs, hl, ← Nat.add_mul]; exact hmm
  · intro j v hj
    have hjl := (List.getElem?_eq_some_iff.1 hj).1
    rw [List.length_append, hcs, hl] at hjl
    show (List.take (oo + n * i.size) arr.toList ++ news ++ List.drop (oo + n * i.size + news.length) arr.toList).toArray[oo + j]? = some v
    simp only [List.getElem?_toArray]
    have hlen : (List.take (oo + n * i.size) arr.toList).length = oo + n * i.size := by simp; omega
    by_cases hjn : j < n * i.size
    · rw [List.getElem?_append_left (by rw [hcs]; exact hjn)] at hj
      rw [List.append_assoc, List.getElem?_append_left (by rw [hlen]; omega), List.getElem?_take_of_lt (by omega)]
      simpa using hv j v hj
    · rw [List.getElem?_append_right (by rw [hcs]; omega)] at hj
      rw [List.append_assoc, List.getElem?_append_right (by rw [hlen]; omega), List.getElem?_append_left (by rw [hlen]; omega), hlen]
      rw [hcs] at hj
      rw [← hj]
      congr 1
      omega

/-- append: a chunk of the call's own grows, in its place or into a new block. -/
theorem opk_append {t e : TypeId} {x y : Operand} {i : TypeInfo} {z : Value} {sz : Nat} {a b : Option Addr} {n c m c2 : Nat} {es es2 : List (List Value)} {r : List Chunk} (ho : o.op = .call { callee := .builtin .append, args := #[x, y], argTypes := #[t, t] })
    (hx : kev N sl x = some (.slice a n c)) (hy : kev N sl y = some (.slice b m c2))
    (ht : P.underlying t = some (.slice e)) (hi : P.info? e = some i) (hz : i.zero = some z) (hsz : i.size = sz) (hzl : z.cells.size = sz)
    (hm : (⟨.slice b m c2, sz, es2⟩ : Chunk) ∈ ro ++ ch) (hone : ∀ e ∈ es2, ∀ u ∈ e, u.oneCell' = true) (hp : Pick ch ⟨.slice a n c, sz, es⟩ r) (h63 : n + m ≤ 4611686018427387904) (hb : (n + m) * i.bytes ≤ 140737488355328)
    (hR : ∀ (a' : Option Addr) (c' : Nat), R (putS o.dst (.slice a' (n + m) c') sl) (⟨.slice a' (n + m) c', sz, es ++ es2⟩ :: r)) : OpK P N ro o sl ch R := by
  intro ac w hkn hs K Q hK
  have hok := hs.wok _ hp.mem
  have hok2 := mem_ok hs hm
  obtain ⟨p0, p1, p2⟩ := hok
  obtain ⟨q0, q1, q2⟩ := hok2
  simp only at p0 p1 p2 q0 q1 q2
  have hfl := flat_length p1
  have hfl2 := flat_length q1
  have hall : ∀ e ∈ es ++ es2, e.length = sz := fun e he => by
    rcases List.mem_append.1 he with h | h
    · exact p1 e h
    · exact q1 e h
  have hone' : ∀ u ∈ es2.flatten, u.oneCell' = true := fun u hu => by
    obtain ⟨e, he, hue⟩ := List.mem_flatten.1 hu
    exact hone e he u hue
  have hfin : ∀ (a' : Option Addr) (c' : Nat) (w' : World), (Builtin.append_ #[t, t] o.type #[.slice a n c, .slice b m c2]).run P w = .ok (.slice a' (n + m) c') w' →
      (⟨.slice a' (n + m) c', sz, es ++ es2⟩ : Chunk).ok w' true → (w'.os = w.os ∧ w'.tape = w.tape ∧ w'.output = w.output) → w.heap.size ≤ w'.heap.size → (∀ b, b < w.heap.size → (⟨.slice a n c, sz, es⟩ : Chunk).blk ≠ some b → w'.heap[b]? = w.heap[b]?) →
      (∀ b, (⟨.slice a' (n + m) c', sz, es ++ es2⟩ : Chunk).blk = some b → b < w.heap.size → (⟨.slice a n c, sz, es⟩ : Chunk).blk = some b) → o.wp P ac w K Q := by
    intro a' c' w' hr hd he h1 h2 h3
    obtain ⟨s1, s2⟩ := hs.repl hp hd he h1 h2 h3
    have h0 : (execOp ac.eval o).run P w = .ok (.value (.slice a' (n + m) c')) w' := by
      unfold execOp
      simp [ho, hkn.ev hx, hkn.ev hy, resolve, invoke, builtin, hr]
    unfold Oper.wp
    rw [h0]
    exact hK _ _ _ _ (hR a' c') (hkn.put _ _) s1 s2
  subst hsz
  -- the source
  cases b with
  | none =>
    obtain ⟨e1, e2, e3⟩ := q2
    subst e1 e2 e3
    refine hfin a c w ?_ ?_ ⟨rfl, rfl, rfl⟩ (Nat.le_refl _) (fun _ _ _ => rfl) (fun b hb _ => hb)
    · have hnc : n ≤ c := by
        cases a with
        | none => obtain ⟨f1, f2, _⟩ := p2; omega
        | some ad => exact p2.2.1
      cases a with
      | none => simp [Builtin.append_, run_underlying ht, sizeOf, typeInfo, hi, Builtin.lenOf, Builtin.firstCells, hnc]
      | some ad => simp [Builtin.append_, run_underlying ht, sizeOf, typeInfo, hi, Builtin.lenOf, Builtin.firstCells, hnc, storeCells]
    · rw [List.append_nil]; exact ⟨p0, p1, p2⟩
  | some bd =>
    obtain ⟨r1, r2, r3⟩ := q2
    have hnews : ∀ (j : Nat) (v : Value), es2.flatten[j]? = some v → w.cell? (bd.add j) = some v := fun j v hj => by
      have hjl := (List.getElem?_eq_some_iff.1 hj).1
      rw [hfl2] at hjl
      have : 0 < es2.length := by
        rcases Nat.eq_zero_or_pos es2.length with h | h
        · rw [h] at hjl; omega
        · exact h
      exact (r3 (by omega)).cell hj
    have hlen2 : es2.flatten.length = m * i.size := by rw [hfl2, r1]
    have newok : ∀ (cap : Nat), n + m ≤ cap → (⟨.slice (some ⟨w.heap.size, 0, none⟩) (n + m) cap, i.size, es ++ es2⟩ : Chunk).ok (w.drew.alloc (.cells (es.flatten.toArray ++ es2.flatten.toArray ++ Builtin.zeroCells z.cells (cap - (n + m))) e)) true := by
      intro cap hcap
      have hnl : n = es.length := by
        cases a with
        | none => obtain ⟨f1, _, f3⟩ := p2; subst f3; simpa using f1
        | some ad => exact p2.1
      refine new_slice_ok (w := w.drew) p0 hall (by simp [hnl, r1]) hcap ?_ ?_
      · have hz2 : (Builtin.zeroCells z.cells (cap - (n + m))).size = (cap - (n + m)) * i.size := by rw [size_zeroCells, hzl]
        have h4 : cap = es.length + es2.length + (cap - (n + m)) := by omega
        have h5 : cap * i.size = es.length * i.size + es2.length * i.size + (cap - (n + m)) * i.size := by rw [← Nat.add_mul, ← Nat.add_mul, ← h4]
        simp only [Array.size_append, List.size_toArray, hz2, hfl, hfl2]
        omega
      · intro j v hj
        rw [List.flatten_append] at hj
        have hjl := (List.getElem?_eq_some_iff.1 hj).1
        rw [Array.getElem?_append_left (by simpa using hjl)]
        simpa using hj
    have hk1 : ∀ (cap : Nat) (bb : Nat), bb < w.heap.size → (w.drew.alloc (.cells (es.flatten.toArray ++ es2.flatten.toArray ++ Builtin.zeroCells z.cells (cap - (n + m))) e)).heap[bb]? = w.heap[bb]? := fun cap bb hbb => alloc_old (w := w.drew) bb hbb
    cases a with
    | none =>
      obtain ⟨e1, e2, e3⟩ := p2
      subst e1 e2 e3
      by_cases hm0 : m = 0
      · subst hm0
        have : es2 = [] := List.eq_nil_of_length_eq_zero r1.symm
        subst this
        refine hfin none 0 w ?_ ⟨p0, by simp, by simp⟩ ⟨rfl, rfl, rfl⟩ (Nat.le_refl _) (fun _ _ _ => rfl) (fun b hb _ => by simp [Chunk.blk, blkOf] at hb)
        simp [Builtin.append_, run_underlying ht, sizeOf, typeInfo, hi, Builtin.lenOf, Builtin.firstCells, loadCells, loadCellsFrom]
      · have hr := run_append_nil (P := P) w t o.type e i z ht hi hz bd m c2 es2.flatten hlen2 hnews (by omega) (by omega) (by simp only [Nat.zero_add] at hb; omega)
        have hn := newok (grownCap w m 0 e) (by have := grownCap_ge w m 0 e; omega)
        simp only [Nat.zero_add, List.flatten_nil, Array.empty_append, List.nil_append] at hn
        refine hfin _ _ (w.drew.alloc (.cells (es2.flatten.toArray ++ Builtin.zeroCells z.cells (grownCap w m 0 e - m)) e)) (by simpa using hr) (by simpa using hn) ⟨rfl, rfl, rfl⟩ (by simp) (fun b hb _ => ?_) (fun b hb hlt => ?_)
        · exact alloc_old (w := w.drew) b hb
        · simp only [Chunk.blk, blkOf] at hb
          split at hb
          · cases hb
          · simp only [Option.some.injEq] at hb; omega
    | some ad =>
      obtain ⟨f1, f2, f3⟩ := p2
      by_cases hroom : n + m ≤ c
      · by_cases hc0 : c = 0
        · subst hc0
          have hn0 : n = 0 := by omega
          have hm0 : m = 0 := by omega
          subst hn0 hm0
          have he1 : es = [] := List.eq_nil_of_length_eq_zero f1.symm
          have he2 : es2 = [] := List.eq_nil_of_length_eq_zero r1.symm
          subst he1 he2
          refine hfin (some ad) 0 w ?_ ⟨p0, by simp, rfl, Nat.le_refl _, fun h => by omega⟩ ⟨rfl, rfl, rfl⟩ (Nat.le_refl _) (fun _ _ _ => rfl) (fun b hb _ => hb)
          simp [Builtin.append_, run_underlying ht, sizeOf, typeInfo, hi, Builtin.lenOf, Builtin.firstCells, loadCells, loadCellsFrom, storeCells]
        have f3 := f3 (by omega)
        obtain ⟨w', hr, hrow', hsz', hoth, henv⟩ := run_app_room P w (ty := o.type) ht hi f3 (by rw [hfl, f1]) (Nat.mul_le_mul_right _ hroom) hlen2 hnews hone' hroom
        refine hfin _ _ w' hr ⟨p0, hall, ?_⟩ henv (by omega) (fun b _ hb => hoth b (fun e => hb (by simp only [Chunk.blk, blkOf]; rw [if_neg hc0, e]))) (fun b hb _ => hb)
        exact ⟨by simp [f1, r1], hroom, fun _ => by rw [List.flatten_append]; exact hrow'⟩
      · have hr := run_append_grow (P := P) w t o.type e i z ht hi hz ad n c es.flatten (by rw [hfl, f1]) (fun j v hj => by
          have hjl := (List.getElem?_eq_some_iff.1 hj).1
          rw [hfl] at hjl
          have : 0 < es.length := by
            rcases Nat.eq_zero_or_pos es.length with h | h
            · rw [h] at hjl; omega
            · exact h
          exact (f3 (by omega)).cell hj) bd m c2 es2.flatten hlen2 hnews (by omega) (by omega) (growslice_fits (by omega) hb)
        refine hfin _ _ _ hr (newok _ (grownCap_ge w (n + m) c e)) ⟨rfl, rfl, rfl⟩ (by simp) (fun b hb _ => hk1 _ b hb) (fun b hb hlt => ?_)
        simp only [Chunk.blk, blkOf] at hb
        split at hb
        · cases hb
        · simp only [Option.some.injEq] at hb; omega

/-- copy: into the front of a slice of the call's own. -/
theorem opk_copy {t u e : TypeId} {x y : Operand} {sz : Nat} {a b : Option Addr} {n c m c2 : Nat} {es es2 : List (List Value)} {r : List Chunk} (ho : o.op = .call { callee := .builtin .copy, args := #[x, y], argTypes := #[t, u] })
    (hx : kev N sl x = some (.slice a n c)) (hy : kev N sl y = some (.slice b m c2))
    (ht : ∀ w, (underlying t).run P w = .ok (.slice e) w) (hsz : ∀ w, (sizeOf e).run P w = .ok sz w)
    (hm : (⟨.slice b m c2, sz, es2⟩ : Chunk) ∈ ro ++ ch) (hone : ∀ e ∈ es2, ∀ u ∈ e, u.oneCell' = true) (hp : Pick ch ⟨.slice a n c, sz, es⟩ r)
    (hR : R (putS o.dst (.int .i64 ((min m n : Nat) : Int)) sl) (⟨.slice a n c, sz, es2.take (min m n) ++ es.drop (min m n)⟩ :: r)) : OpK P N ro o sl ch R := by
  intro ac w hkn hs K Q hK
  have hok := hs.wok _ hp.mem
  have hok2 := mem_ok hs hm
  obtain ⟨p0, p1, p2⟩ := hok
  obtain ⟨q0, q1, q2⟩ := hok2
  simp only at p0 p1 p2 q0 q1 q2
  have hnl : n = es.length := by
    cases a with
    | none => obtain ⟨f1, _, f3⟩ := p2; subst f3; simpa using f1
    | some ad => exact p2.1
  have hml : m = es2.length := by
    cases b with
    | none => obtain ⟨f1, _, f3⟩ := q2; subst f3; simpa using f1
    | some ad => exact q2.1
  have hall : ∀ e ∈ es2.take (min m n) ++ es.drop (min m n), e.length = sz := fun e he => by
    rcases List.mem_append.1 he with h | h
    · exact q1 e (List.mem_of_mem_take h)
    · exact p1 e (List.mem_of_mem_drop h)
  have hlen : (es2.take (min m n) ++ es.drop (min m n)).length = es.length := by
    simp only [List.length_append, List.length_take, List.length_drop]; omega
  have htk : ∀ e ∈ es2.take (min m n), e.length = sz := fun e he => q1 e (List.mem_of_mem_take he)
  have htkl : (es2.take (min m n)).flatten.length = min m n * sz := by
    rw [flat_length htk]; congr 1; simp; omega
  have hfin : ∀ (w' : World), (Builtin.copy_ #[t, u] o.type #[.slice a n c, .slice b m c2]).run P w = .ok (goInt (min m n : Nat)) w' →
      (⟨.slice a n c, sz, es2.take (min m n) ++ es.drop (min m n)⟩ : Chunk).ok w' true → (w'.os = w.os ∧ w'.tape = w.tape ∧ w'.output = w.output) → w.heap.size ≤ w'.heap.size → (∀ b, b < w.heap.size → (⟨.slice a n c, sz, es⟩ : Chunk).blk ≠ some b → w'.heap[b]? = w.heap[b]?) → o.wp P ac w K Q := by
    intro w' hr hd he h1 h2
    obtain ⟨s1, s2⟩ := hs.repl hp hd he h1 h2 (fun b hb _ => hb)
    have h0 : (execOp ac.eval o).run P w = .ok (.value (.int .i64 ((min m n : Nat) : Int))) w' := by
      unfold execOp
      simp only [ho, resolve, invoke, builtin, Sem.run_bind, Sem.run_pure, Result.andThen_ok, List.map_toArray, List.map_cons, List.map_nil, hkn.ev hx, hkn.ev hy, hr]
      rfl
    unfold Oper.wp
    rw [h0]
    exact hK _ _ _ _ hR (hkn.put _ _) s1 s2
  have hcells : (Builtin.firstCells sz (min m n) (.slice b m c2)).run P w = .ok (es2.take (min m n)).flatten.toArray w := by
    cases b with
    | none =>
      obtain ⟨f1, f2, f3⟩ := q2
      subst f1 f2 f3
      simp [Builtin.firstCells]
    | some bd =>
      have := run_firstCells_some (P := P) w sz (min m n) bd m c2 (es2.take (min m n)).flatten htkl (fun j v hj => by
        have hjl := (List.getElem?_eq_some_iff.1 hj).1
        have hpos : 0 < es2.length := by
          rcases Nat.eq_zero_or_pos es2.length with h | h
          · have : es2 = [] := List.eq_nil_of_length_eq_zero h
            subst this; simp at hjl
          · exact h
        refine (q2.2.2 (by have := q2.1; have := q2.2.1; omega)).cell ?_
        have h2 : es2 = es2.take (min m n) ++ es2.drop (min m n) := (List.take_append_drop _ _).symm
        rw [h2, List.flatten_append, List.getElem?_append_left (List.getElem?_eq_some_iff.1 hj).1]
        exact hj)
      exact this
  cases a with
  | none =>
    obtain ⟨e1, e2, e3⟩ := p2
    subst e1 e2 e3
    refine hfin w ?_ ⟨p0, by simp, by simp⟩ ⟨rfl, rfl, rfl⟩ (Nat.le_refl _) (fun _ _ _ => rfl)
    simp [Builtin.copy_, ht, hsz, Builtin.lenOf] at hcells ⊢
    simp [hcells]
  | some ad =>
    by_cases hc0 : c = 0
    · subst hc0
      have hn0 : n = 0 := by have := p2.2.1; omega
      subst hn0
      have he1 : es = [] := List.eq_nil_of_length_eq_zero hnl.symm
      subst he1
      refine hfin w ?_ ⟨p0, by simp, by simp⟩ ⟨rfl, rfl, rfl⟩ (Nat.le_refl _) (fun _ _ _ => rfl)
      simp [Builtin.copy_, ht, hsz, Builtin.lenOf] at hcells ⊢
      simp [hcells, storeCells]
    have hle : 0 + (es2.take (min m n)).flatten.length ≤ es.flatten.length := by
      rw [htkl, flat_length p1, Nat.zero_add]; exact Nat.mul_le_mul_right _ (by omega)
    obtain ⟨w', hr, hrow, hsize, hoth, henv⟩ := run_storeAll P (es2.take (min m n)).flatten es.flatten 0 ad (c * sz) w (p2.2.2 (by omega)) hle (fun v hv => by
      obtain ⟨e, he, hve⟩ := List.mem_flatten.1 hv
      exact hone e (List.mem_of_mem_take he) v hve)
    refine hfin w' ?_ ⟨p0, hall, ?_⟩ henv (by omega) (fun b _ hb => hoth b (fun e => hb (by simp only [Chunk.blk, blkOf]; rw [if_neg hc0, e])))
    · have h3 : Nat.min m n = min m n := rfl
      simp [Builtin.copy_, ht, hsz, Builtin.lenOf, h3, hcells, hr]
    · refine ⟨by rw [hlen]; exact p2.1, p2.2.1, fun _ => ?_⟩
      have e1 : (es2.take (min m n) ++ es.drop (min m n)).flatten = es.flatten.take 0 ++ (es2.take (min m n)).flatten ++ es.flatten.drop (0 + (es2.take (min m n)).flatten.length) := by
        rw [List.flatten_append, flat_sub p1, htkl]; simp
      rw [e1]
      exact hrow

end
end Go.Proofs.YtpfijnklnljccaaDoor
