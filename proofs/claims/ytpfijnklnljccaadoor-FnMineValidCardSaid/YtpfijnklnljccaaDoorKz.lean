/- Rules that follow a plain partial program step by step; no condition on the program. -/
import Derived.Test.YtpfijnklnljccaaDoorKv
namespace Go.Proofs.YtpfijnklnljccaaDoor
open Go
set_option linter.unusedVariables false
set_option linter.unusedSimpArgs false

/-! ### Steps of a region -/
section
variable {E : Env} {ops : Array Oper} {Q : Exit → KPred} {l : List Oper} {o : Oper} {sl : Slots} {ch : List Chunk} {d : Nat} {v : Value}
theorem kd (h : OpV E.P E.N E.ro ch o sl v) (hR : KOps E ops Q l ((d, v) :: sl) ch) (hg : o.guard = none := by rfl) (hd : o.dst = some d := by rfl) : KOps E ops Q (o :: l) sl ch := kops_d hg hd h hR
theorem kk (h : OpK E.P E.N E.ro o sl ch (KOps E ops Q l)) (hg : o.guard = none := by rfl) : KOps E ops Q (o :: l) sl ch := kops_step hg h
theorem kgd {j d' : Nat} {want b : Bool} (hbw : b = want) (h : OpV E.P E.N E.ro ch o sl v) (hR : KOps E ops Q l ((d, v) :: sl) ch) (hg : o.guard = some (j, want) := by rfl) (hj : (ops[j]?).bind (·.dst) = some d' := by rfl)
    (hb : kev E.N sl (.tmp d') = some (.bool b) := by rfl) (hd : o.dst = some d := by rfl) : KOps E ops Q (o :: l) sl ch := kops_gd hg hj hb hbw hd h hR
theorem kgk {j d' : Nat} {want b : Bool} (hbw : b = want) (h : OpK E.P E.N E.ro o sl ch (KOps E ops Q l)) (hg : o.guard = some (j, want) := by rfl) (hj : (ops[j]?).bind (·.dst) = some d' := by rfl)
    (hb : kev E.N sl (.tmp d') = some (.bool b) := by rfl) : KOps E ops Q (o :: l) sl ch := kops_gk hg hj hb hbw h
theorem kskip {j d' : Nat} {want b : Bool} (hbw : b = !want) (hR : KOps E ops Q l (putS o.dst undef sl) ch) (hg : o.guard = some (j, want) := by rfl) (hj : (ops[j]?).bind (·.dst) = some d' := by rfl)
    (hb : kev E.N sl (.tmp d') = some (.bool b) := by rfl) : KOps E ops Q (o :: l) sl ch := kops_skip hg hj hb hbw hR
end

/-! ### Values -/
theorem run_equal_nil {P : Program} (w : World) {t e : TypeId} {a : Option Addr} {n c : Nat} (d : Nat) (hu : ∀ w, (underlying t).run P w = .ok (.slice e) w) : (Op.equalIn (d + 1) t (.slice a n c) (.slice none 0 0)).run P w = .ok a.isNone w := by
  unfold Op.equalIn
  cases a <;> simp [hu]
section
variable {P : Program} {N : Nat} {ro ch : List Chunk} {o : Oper} {sl : Slots}
theorem v_mv {x : Operand} {v : Value} (ho : o.op = .move x := by rfl) (hx : kev N sl x = some v := by rfl) : OpV P N ro ch o sl v := opv_move ho hx
theorem v_as {x : Operand} {v : Value} (ho : o.op = .assign x := by rfl) (hx : kev N sl x = some v := by rfl) : OpV P N ro ch o sl v := opv_assign ho hx
theorem v_pt {c x y : Operand} {b : Bool} {v : Value} (hb : b = true) (ho : o.op = .pick c x y := by rfl) (hc : kev N sl c = some (.bool b) := by rfl) (hx : kev N sl x = some v := by rfl) : OpV P N ro ch o sl v := opv_pick_t ho hc hx hb
theorem v_pf {c x y : Operand} {b : Bool} {v : Value} (hb : b = false) (ho : o.op = .pick c x y := by rfl) (hc : kev N sl c = some (.bool b) := by rfl) (hx : kev N sl y = some v := by rfl) : OpV P N ro ch o sl v := opv_pick_f ho hc hx hb
theorem v_cmp {op : BinOp} {t u : TypeId} {x y : Operand} {k : IntKind} {a b : Int} {r : Bool} (ho : o.op = .binOp op t x y u := by rfl) (hx : kev N sl x = some (.int k a) := by rfl) (hy : kev N sl y = some (.int k b) := by rfl)
    (hc : cmpB op a b = some r := by rfl) : OpV P N ro ch o sl (.bool r) := opv_cmp ho hx hy hc
theorem v_add {t u : TypeId} {x y : Operand} {a b : Int} (ho : o.op = .binOp .add t x y u := by rfl) (hx : kev N sl x = some (.int .i64 a) := by rfl) (hy : kev N sl y = some (.int .i64 b) := by rfl) : OpV P N ro ch o sl (.int .i64 (w64 (a + b))) := opv_ari ho hx hy rfl
theorem v_sub {t u : TypeId} {x y : Operand} {a b : Int} (ho : o.op = .binOp .sub t x y u := by rfl) (hx : kev N sl x = some (.int .i64 a) := by rfl) (hy : kev N sl y = some (.int .i64 b) := by rfl) : OpV P N ro ch o sl (.int .i64 (w64 (a - b))) := opv_ari ho hx hy rfl
theorem v_mul {t u : TypeId} {x y : Operand} {a b : Int} (ho : o.op = .binOp .mul t x y u := by rfl) (hx : kev N sl x = some (.int .i64 a) := by rfl) (hy : kev N sl y = some (.int .i64 b) := by rfl) : OpV P N ro ch o sl (.int .i64 (w64 (a * b))) := opv_ari ho hx hy rfl
theorem v_ari {op : BinOp} {t u : TypeId} {x y : Operand} {k : IntKind} {a b r : Int} (ho : o.op = .binOp op t x y u := by rfl) (hx : kev N sl x = some (.int k a) := by rfl) (hy : kev N sl y = some (.int k b) := by rfl)
    (hc : ariB k op a b = some r := by rfl) : OpV P N ro ch o sl (.int k r) := opv_ari ho hx hy hc
theorem v_bit {op : BinOp} {t u : TypeId} {x y : Operand} {k : IntKind} {a b r : Int} (ho : o.op = .binOp op t x y u := by rfl) (hx : kev N sl x = some (.int k a) := by rfl) (hy : kev N sl y = some (.int k b) := by rfl)
    (hc : bitB k op a b = some r := by rfl) : OpV P N ro ch o sl (.int k r) := opv_bit ho hx hy hc
theorem v_quo {t u : TypeId} {x y : Operand} {k : IntKind} {a b : Int} (ho : o.op = .binOp .quo t x y u := by rfl) (hx : kev N sl x = some (.int k a) := by rfl) (hy : kev N sl y = some (.int k b) := by rfl) (h0 : b ≠ 0 := by decide) : OpV P N ro ch o sl (.int k (k.wrap (a.tdiv b))) := opv_quo ho hx hy h0
theorem v_rem {t u : TypeId} {x y : Operand} {k : IntKind} {a b : Int} (ho : o.op = .binOp .rem t x y u := by rfl) (hx : kev N sl x = some (.int k a) := by rfl) (hy : kev N sl y = some (.int k b) := by rfl) (h0 : b ≠ 0 := by decide) : OpV P N ro ch o sl (.int k (a.tmod b)) := opv_rem ho hx hy h0
theorem v_shl {t u : TypeId} {x y : Operand} {k k' : IntKind} {a b : Int} (ho : o.op = .binOp .shl t x y u := by rfl) (hx : kev N sl x = some (.int k a) := by rfl) (hy : kev N sl y = some (.int k' b) := by rfl) (h0 : 0 ≤ b := by decide) : OpV P N ro ch o sl (.int k (k.wrap (a * 2 ^ min b.toNat k.bits))) := opv_shl ho hx hy h0
theorem v_shr {t u : TypeId} {x y : Operand} {k k' : IntKind} {a b : Int} (ho : o.op = .binOp .shr t x y u := by rfl) (hx : kev N sl x = some (.int k a) := by rfl) (hy : kev N sl y = some (.int k' b) := by rfl) (h0 : 0 ≤ b := by decide) : OpV P N ro ch o sl (.int k (a.fdiv (2 ^ min b.toNat k.bits))) := opv_shr ho hx hy h0
theorem v_not {t : TypeId} {x : Operand} {b : Bool} (ho : o.op = .unOp .not t x := by rfl) (hx : kev N sl x = some (.bool b) := by rfl) : OpV P N ro ch o sl (.bool (!b)) := opv_not ho hx
theorem v_neg {t : TypeId} {x : Operand} {a : Int} (ho : o.op = .unOp .neg t x := by rfl) (hx : kev N sl x = some (.int .i64 a) := by rfl) : OpV P N ro ch o sl (.int .i64 (w64 (-a))) := by
  have h := opv_neg (P := P) (ro := ro) (ch := ch) ho hx
  rw [Int.zero_sub] at h
  exact h
theorem v_eqb {t u : TypeId} {x y : Operand} {a b : Bool} (hu : P.underlying t = some .bool) (ho : o.op = .binOp .eql t x y u := by rfl) (hx : kev N sl x = some (.bool a) := by rfl) (hy : kev N sl y = some (.bool b) := by rfl) : OpV P N ro ch o sl (.bool (a == b)) := opv_eqb ho hx hy hu
theorem v_neb {t u : TypeId} {x y : Operand} {a b : Bool} (hu : P.underlying t = some .bool) (ho : o.op = .binOp .neq t x y u := by rfl) (hx : kev N sl x = some (.bool a) := by rfl) (hy : kev N sl y = some (.bool b) := by rfl) : OpV P N ro ch o sl (.bool (!(a == b))) := opv_neb ho hx hy hu
theorem v_len {t : TypeId} {x : Operand} {a : Option Addr} {n c : Nat} {e : TypeId} (hu : ∀ w, (underlying t).run P w = .ok (.slice e) w) (ho : o.op = .call { callee := .builtin .len, args := #[x], argTypes := #[t] } := by rfl)
    (hx : kev N sl x = some (.slice a n c) := by rfl) : OpV P N ro ch o sl (.int .i64 (n : Int)) := opv_len ho rfl hx hu
theorem v_lens {t : TypeId} {x : Operand} {s : ByteArray} (hu : ∀ w, (underlying t).run P w = .ok .string w) (ho : o.op = .call { callee := .builtin .len, args := #[x], argTypes := #[t] } := by rfl)
    (hx : kev N sl x = some (.string s) := by rfl) : OpV P N ro ch o sl (.int .i64 (s.size : Int)) := opv_len_str ho hx hu
theorem v_min {t u : TypeId} {x y : Operand} {k : IntKind} {a b : Int} (ho : o.op = .call { callee := .builtin .min, args := #[x, y], argTypes := #[t, u] } := by rfl)
    (hx : kev N sl x = some (.int k a) := by rfl) (hy : kev N sl y = some (.int k b) := by rfl) : OpV P N ro ch o sl (.int k (min a b)) := opv_min ho hx hy
theorem v_max {t u : TypeId} {x y : Operand} {k : IntKind} {a b : Int} (ho : o.op = .call { callee := .builtin .max, args := #[x, y], argTypes := #[t, u] } := by rfl)
    (hx : kev N sl x = some (.int k a) := by rfl) (hy : kev N sl y = some (.int k b) := by rfl) : OpV P N ro ch o sl (.int k (max a b)) := opv_max ho hx hy
theorem v_cv {s d : TypeId} {x : Operand} {k kd : IntKind} {a : Int} {ds : TypeDesc} (hus : ∀ w, (underlying s).run P w = .ok ds w) (hud : ∀ w, (underlying d).run P w = .ok (.int kd) w) (ho : o.op = .convert s d x := by rfl)
    (hx : kev N sl x = some (.int k a) := by rfl) : OpV P N ro ch o sl (.int kd (kd.wrap a)) := opv_conv ho hx hus hud
theorem v_ex {x : Operand} {i : Nat} {vs : Array Value} {v : Value} (ho : o.op = .extract x i := by rfl) (hx : kev N sl x = some (.tuple vs) := by rfl) (hi : vs[i]? = some v := by rfl) : OpV P N ro ch o sl v := opv_extract ho hx hi
theorem v_fd {t : TypeId} {x : Operand} {f : Nat} {cs : Array Value} {fs : Array Field} {fd : Field} {v : Value} (hu : ∀ w, (underlying t).run P w = .ok (.struct fs) w) (hag : ∀ w, (isAgg fd.type).run P w = .ok false w)
    (ho : o.op = .field t x f := by rfl) (hx : kev N sl x = some (.agg cs) := by rfl) (hf : fs[f]? = some fd := by rfl) (hv : cs[fd.offset]? = some v := by rfl) : OpV P N ro ch o sl v := opv_field ho hx hu hf hag hv
theorem v_ixs {t : TypeId} {x ix : Operand} {s : ByteArray} {k : IntKind} {i : Int} {b : UInt8} (hu : ∀ w, (underlying t).run P w = .ok .string w) (h0 : 0 ≤ i) (hb : s[i.toNat]? = some b) (ho : o.op = .index t x ix := by rfl) (hx : kev N sl x = some (.string s) := by rfl) (hi : kev N sl ix = some (.int k i) := by rfl) : OpV P N ro ch o sl (.int .u8 b.toNat) := opv_index_str ho hx hi hu h0 hb
theorem v_bd {t : TypeId} {ps : Array (Nat × Operand)} {z : Value} {fs : Array Field} {places : Array (Nat × Nat)} (vs : List (Nat × Value)) (out : List Value)
    (hz : ∀ w, (zeroValue t).run P w = .ok z w) (hu : ∀ w, (underlying t).run P w = .ok (.struct fs) w)
    (hpl : ∀ w, (fs.mapM (fun (f : Field) => (do pure (f.offset, ← sizeOf f.type) : Sem (Nat × Nat)))).run P w = .ok places w) (ho : o.op = .build t ps := by rfl)
    (hx : ps.toList.map (fun p => (p.1, kev N sl p.2)) = vs.map (fun p => (p.1, some p.2)) := by rfl) (hf : Instr.fill (places[·]?) z.cells vs = some out.toArray := by rfl) : OpV P N ro ch o sl (.agg out.toArray) := opv_build1 vs out ho hx hz hu hpl hf
theorem v_eqn {t u e : TypeId} {x y : Operand} {a : Option Addr} {n c : Nat} (hu : ∀ w, (underlying t).run P w = .ok (.slice e) w) (ho : o.op = .binOp .eql t x y u := by rfl) (hx : kev N sl x = some (.slice a n c) := by rfl) (hy : kev N sl y = some (.slice none 0 0) := by rfl) : OpV P N ro ch o sl (.bool a.isNone) :=
  fun ac w hkn _ => by
    have h := run_equal_nil (P := P) w (a := a) (n := n) (c := c) 9999 hu
    unfold execOp; simp [ho, hkn.ev hx, hkn.ev hy, eqGuard, binOp, Op.equal, Op.maxDepth, h]
theorem v_eqa {t u : TypeId} {x y : Operand} {xs ys : Array Value} {r : Bool} (hg : P.eqGuardType P.depth t = false) (ht : P.underlying t = some (.struct (P.fieldsOf t))) (hp : P.stoodInHeld t = false)
    (he : ∀ w, (Op.eqFields 9999 xs ys (P.fieldsOf t).toList).run P w = .ok r w) (ho : o.op = .binOp .eql t x y u := by rfl) (hx : kev N sl x = some (.agg xs) := by rfl) (hy : kev N sl y = some (.agg ys) := by rfl) : OpV P N ro ch o sl (.bool r) := opv_eql_agg ho hx hy hg ht hp he
theorem v_nea {t u : TypeId} {x y : Operand} {xs ys : Array Value} {r : Bool} (hg : P.eqGuardType P.depth t = false) (ht : P.underlying t = some (.struct (P.fieldsOf t))) (hp : P.stoodInHeld t = false)
    (he : ∀ w, (Op.eqFields 9999 xs ys (P.fieldsOf t).toList).run P w = .ok r w) (ho : o.op = .binOp .neq t x y u := by rfl) (hx : kev N sl x = some (.agg xs) := by rfl) (hy : kev N sl y = some (.agg ys) := by rfl) : OpV P N ro ch o sl (.bool (!r)) := opv_neq_agg ho hx hy hg ht hp he

/-! #### Memory -/
theorem chunk_len {w : World} {ro ch : List Chunk} {a : Option Addr} {n c sz : Nat} {es : List (List Value)} (hs : St w ro ch) (hm : (⟨.slice a n c, sz, es⟩ : Chunk) ∈ ro ++ ch) : n = es.length := slice_len (mem_ok hs hm)

theorem v_ia {t e : TypeId} {x ix : Operand} {a : Option Addr} {n c sz : Nat} {k : IntKind} {i : Int} {j : Nat} {es : List (List Value)}
    (hj : i = (j : Int)) (hn : j < n) (hu : ∀ w, (underlying t).run P w = .ok (.slice e) w) (hsz : ∀ w, (sizeOf e).run P w = .ok sz w)
     (ho : o.op = .indexAddr t x ix := by rfl) (hx : kev N sl x = some (.slice a n c) := by rfl) (hi : kev N sl ix = some (.int k i) := by rfl) (hm : (⟨.slice a n c, sz, es⟩ : Chunk) ∈ ro ++ ch := by repeat (first | exact mh | apply mt | apply mas | apply ms)) : OpV P N ro ch o sl (adr (.slice a n c) sz j 0) := by
  intro ac w hk hs
  exact opv_ia ho hx hi hu hsz hm hj (by rw [← chunk_len hs hm]; exact hn) ac w hk hs
theorem v_fa {s : TypeId} {x : Operand} {f off : Nat} {a : Option Addr} {n c : Nat} {sz i k : Nat} {es : List (List Value)}
    (hi : i < n) (hfa : FieldAt P s f off)  (ho : o.op = .fieldAddr s x f := by rfl) (hx : kev N sl x = some (adr (.slice a n c) sz i k) := by rfl) (hm : (⟨.slice a n c, sz, es⟩ : Chunk) ∈ ro ++ ch := by repeat (first | exact mh | apply mt | apply mas | apply ms)) : OpV P N ro ch o sl (adr (.slice a n c) sz i (k + off)) := by
  intro ac w hk hs
  exact opv_fa ho hx hfa hm (by rw [← chunk_len hs hm]; exact hi) ac w hk hs
theorem v_fb {s : TypeId} {x : Operand} {f off : Nat} {p : Addr} {sz : Nat} {e : List Value}
    (hfa : FieldAt P s f off)  (ho : o.op = .fieldAddr s x f := by rfl) (hx : kev N sl x = some (.pointer (some p)) := by rfl) (hm : (⟨.pointer (some p), sz, [e]⟩ : Chunk) ∈ ro ++ ch := by repeat (first | exact mh | apply mt | apply mas | apply ms)) : OpV P N ro ch o sl (adr (.pointer (some p)) sz 0 off) := opv_fab ho hx hfa hm
section
variable {α : Type} [Inhabited α] {enc : α → List Value} {l : List α}
theorem v_ldf {t : TypeId} {x : Operand} {a : Option Addr} {n c sz j k : Nat} {v : Value} (hj : j < n) (hag : ∀ w, (isAgg t).run P w = .ok false w) 
    (ho : o.op = .load t x := by rfl) (hx : kev N sl x = some (adr (.slice a n c) sz j k) := by rfl) (hm : (⟨.slice a n c, sz, l.map enc⟩ : Chunk) ∈ ro ++ ch := by repeat (first | exact mh | apply mt | apply mas | apply ms)) (hk : (enc (gx l j))[k]? = some v := by rfl) : OpV P N ro ch o sl v := by
  intro ac w hkn hs
  have hl := chunk_len hs hm
  rw [List.length_map] at hl
  exact opv_load ho hx hag hm (gx_map (by omega)) hk ac w hkn hs
theorem v_lda {t : TypeId} {x : Operand} {a : Option Addr} {n c sz j : Nat} {e : List Value} (hj : j < n) (hag : ∀ w, (isAgg t).run P w = .ok true w) (hsz : ∀ w, (sizeOf t).run P w = .ok sz w) 
    (ho : o.op = .load t x := by rfl) (hx : kev N sl x = some (adr (.slice a n c) sz j 0) := by rfl) (hm : (⟨.slice a n c, sz, l.map enc⟩ : Chunk) ∈ ro ++ ch := by repeat (first | exact mh | apply mt | apply mas | apply ms)) (he : enc (gx l j) = e := by rfl) : OpV P N ro ch o sl (.agg e.toArray) := by
  intro ac w hkn hs
  have hl := chunk_len hs hm
  rw [List.length_map] at hl
  subst he
  exact opv_load_agg ho hx hag hsz hm (gx_map (by omega)) ac w hkn hs
end
theorem v_ldb {t : TypeId} {x : Operand} {p : Addr} {sz k : Nat} {e : List Value} {v : Value} (hag : ∀ w, (isAgg t).run P w = .ok false w) 
    (ho : o.op = .load t x := by rfl) (hx : kev N sl x = some (adr (.pointer (some p)) sz 0 k) := by rfl) (hm : (⟨.pointer (some p), sz, [e]⟩ : Chunk) ∈ ro ++ ch := by repeat (first | exact mh | apply mt | apply mas | apply ms)) (hk : e[k]? = some v := by rfl) : OpV P N ro ch o sl v := opv_load (es := [e]) ho hx hag hm rfl hk
theorem v_ldB {t : TypeId} {x : Operand} {p : Addr} {sz : Nat} {e : List Value} (hag : ∀ w, (isAgg t).run P w = .ok true w) (hsz : ∀ w, (sizeOf t).run P w = .ok sz w) 
    (ho : o.op = .load t x := by rfl) (hx : kev N sl x = some (.pointer (some p)) := by rfl) (hm : (⟨.pointer (some p), sz, [e]⟩ : Chunk) ∈ ro ++ ch := by repeat (first | exact mh | apply mt | apply mas | apply ms)) : OpV P N ro ch o sl (.agg e.toArray) := opv_load_box ho hx hag hsz hm
theorem v_ld1 {t : TypeId} {x : Operand} {p : Addr} {sz : Nat} {v : Value} {e : List Value} (hag : ∀ w, (isAgg t).run P w = .ok false w) 
    (ho : o.op = .load t x := by rfl) (hx : kev N sl x = some (.pointer (some p)) := by rfl) (hm : (⟨.pointer (some p), sz, [v :: e]⟩ : Chunk) ∈ ro ++ ch := by repeat (first | exact mh | apply mt | apply mas | apply ms)) : OpV P N ro ch o sl v := opv_load_box1 ho hx hag hm
/-- A slice of a slice. -/
theorem v_sl {t e : TypeId} {x : Operand} {lo hi : Option Operand} {a : Option Addr} {n c sz l h : Nat} {es : List (List Value)} (hlh : l ≤ h) (hn : h ≤ n) (hu : ∀ w, (underlying t).run P w = .ok (.slice e) w) (hsz : ∀ w, (sizeOf e).run P w = .ok sz w)
    (ho : o.op = .slice t x lo hi none := by rfl) (hx : kev N sl x = some (.slice a n c) := by rfl) (hm : (⟨.slice a n c, sz, es⟩ : Chunk) ∈ ro ++ ch := by repeat (first | exact mh | apply mt | apply mas | apply ms))
    (hlo : match lo with | none => l = 0 | some y => ∃ k i, kev N sl y = some (.int k i) ∧ i = (l : Int)) (hhi : match hi with | none => h = n | some y => ∃ k i, kev N sl y = some (.int k i) ∧ i = (h : Int)) : OpV P N ro ch o sl (.slice (if c = l then a else a.map (·.add (l * sz))) (h - l) (c - l)) := by
  intro ac w hkn hs
  have hc : n ≤ c := by
    obtain ⟨_, _, h2⟩ := mem_ok hs hm
    cases a with
    | none => obtain ⟨h1, h3, _⟩ := h2; omega
    | some ad => exact h2.2.1
  refine opv_slice (l := l) (h := h) ho hx hu hsz ?_ ?_ hlh (by omega) ac w hkn hs
  · cases lo with
    | none => exact hlo
    | some y => obtain ⟨k, i, h1, rfl⟩ := hlo; exact ⟨k, h1⟩
  · cases hi with
    | none => exact hhi
    | some y => obtain ⟨k, i, h1, rfl⟩ := hhi; exact ⟨k, h1⟩
end

/-! ### What changes memory -/
section
variable {P : Program} {N : Nat} {ro ch ch' : List Chunk} {o : Oper} {sl : Slots} {R : KPred}
section
variable {α : Type} [Inhabited α] {enc : α → List Value} {l : List α}
/-- One cell of an element. -/
theorem s_f {t : TypeId} {x y : Operand} {a : Option Addr} {n c sz j k : Nat} {v : Value} (z : α) (hj : j < n) (hsz : ∀ w, (sizeOf t).run P w = .ok 1 w) 
     (hR : R (putS o.dst undef sl) ch') (ho : o.op = .store t x y := by rfl) (hx : kev N sl x = some (adr (.slice a n c) sz j k) := by rfl) (hu : Upd ch ⟨.slice a n c, sz, l.map enc⟩ ⟨.slice a n c, sz, (l.set j z).map enc⟩ ch' := by repeat (first | exact Upd.here | apply Upd.there | apply Upd.seg)) (hk : k < sz := by decide) (hy : kev N sl y = some v := by rfl) (hz : enc z = (enc (gx l j)).set k v := by rfl)
    (hv : v.oneCell' = true := by rfl) : OpK P N ro o sl ch R := by
  intro ac w hkn hs K Q hK
  have hl := slice_len (hs.wok _ (upd_mem hu))
  rw [List.length_map] at hl
  rw [← map_set' hz] at hu
  exact opk_store ho hx hy hsz hv hu (gx_map (by omega)) hk hR ac w hkn hs K Q hK
/-- A whole element. -/
theorem s_a {t : TypeId} {x y : Operand} {a : Option Addr} {n c sz j : Nat} {v : Value} (z : α) (hj : j < n) (hsz : ∀ w, (sizeOf t).run P w = .ok sz w) 
    (hR : R (putS o.dst undef sl) ch') (hv : ∀ u ∈ enc z, u.oneCell' = true) (hl : (enc z).length = sz := by rfl) (ho : o.op = .store t x y := by rfl) (hx : kev N sl x = some (adr (.slice a n c) sz j 0) := by rfl) (hu : Upd ch ⟨.slice a n c, sz, l.map enc⟩ ⟨.slice a n c, sz, (l.set j z).map enc⟩ ch' := by repeat (first | exact Upd.here | apply Upd.there | apply Upd.seg)) (hy : kev N sl y = some v := by rfl)
    (hcv : v.cells.toList = enc z := by rfl) : OpK P N ro o sl ch R := by
  intro ac w hkn hs K Q hK
  have hl' := slice_len (hs.wok _ (upd_mem hu))
  rw [List.length_map] at hl'
  rw [← map_set' rfl] at hu
  exact opk_store_agg ho hx hy hsz hcv hv hl hu (gx_map (by omega)) hR ac w hkn hs K Q hK
end
/-- One cell of a variable. -/
theorem s_b {t : TypeId} {x y : Operand} {p : Addr} {sz k : Nat} {e e' : List Value} {v : Value} (hsz : ∀ w, (sizeOf t).run P w = .ok 1 w) 
     (hR : R (putS o.dst undef sl) ch') (ho : o.op = .store t x y := by rfl) (hx : kev N sl x = some (adr (.pointer (some p)) sz 0 k) := by rfl) (hu : Upd ch ⟨.pointer (some p), sz, [e]⟩ ⟨.pointer (some p), sz, [e']⟩ ch' := by repeat (first | exact Upd.here | apply Upd.there | apply Upd.seg)) (hk : k < sz := by decide) (hy : kev N sl y = some v := by rfl) (he : e' = e.set k v := by rfl)
    (hv : v.oneCell' = true := by rfl) : OpK P N ro o sl ch R := by
  subst he
  exact opk_store (es := [e]) (i := 0) ho hx hy hsz hv hu rfl hk hR
/-- A whole variable. -/
theorem s_B {t : TypeId} {x y : Operand} {p : Addr} {sz : Nat} {e e' : List Value} {v : Value} (hsz : ∀ w, (sizeOf t).run P w = .ok sz w) 
    (hR : R (putS o.dst undef sl) ch') (ho : o.op = .store t x y := by rfl) (hx : kev N sl x = some (.pointer (some p)) := by rfl) (hu : Upd ch ⟨.pointer (some p), sz, [e]⟩ ⟨.pointer (some p), sz, [e']⟩ ch' := by repeat (first | exact Upd.here | apply Upd.there | apply Upd.seg)) (hy : kev N sl y = some v := by rfl)
    (hcv : v.cells.toList = e' := by rfl) (hl : e'.length = sz := by rfl) (hv : ∀ u ∈ e', u.oneCell' = true := by simp [Value.oneCell']) : OpK P N ro o sl ch R := opk_store_box ho hx hy hsz hcv hv hl hu hR
theorem n_box {t : TypeId} {x : Operand} {v : Value} {e : List Value} (sz : Nat) (hR : ∀ p : Addr, R (putS o.dst (.pointer (some p)) sl) (⟨.pointer (some p), sz, [e]⟩ :: ch))
    (ho : o.op = .box t x := by rfl) (hx : kev N sl x = some v := by rfl) (he : v.cells.toList = e := by rfl) (hl : e.length = sz := by rfl) (hp : 0 < sz := by decide) : OpK P N ro o sl ch R := opk_box' sz ho hx he hl hp hR
theorem n_alloc {t : TypeId} {z : Value} {e : List Value} (sz : Nat) (hz : ∀ w, (zeroValue t).run P w = .ok z w) (hR : ∀ p : Addr, R (putS o.dst (.pointer (some p)) sl) (⟨.pointer (some p), sz, [e]⟩ :: ch))
    (ho : o.op = .alloc t := by rfl) (he : z.cells.toList = e := by rfl) (hl : e.length = sz := by rfl) (hp : 0 < sz := by decide) : OpK P N ro o sl ch R := opk_alloc' sz ho hz he hl hp hR
/-- A new slice of zeros. -/
theorem n_make {α : Type} {enc : α → List Value} {t e : TypeId} {x y : Operand} {k k' : IntKind} {n : Int} {j : Nat} {i : TypeInfo} {z : Value} {sz : Nat} (z0 : α) (hj : n = (j : Int)) (hn : j ≤ 1073741824)
    (ht : P.underlying t = some (.slice e)) (hi : P.info? e = some i) (hb : i.bytes ≤ 65536)
    (hR : ∀ p : Addr, R (putS o.dst (.slice (some p) j j) sl) (⟨.slice (some p) j j, sz, (List.replicate j z0).map enc⟩ :: ch))
    (ho : o.op = .makeSlice t x y := by rfl) (hx : kev N sl x = some (.int k n) := by rfl) (hy : kev N sl y = some (.int k' n) := by rfl) (hz : i.zero = some z := by rfl) (hsz : i.size = sz := by rfl)
    (hzs : z.cells.toList = enc z0 := by rfl) (hzl : (enc z0).length = sz := by rfl) (hp : 0 < sz := by decide) : OpK P N ro o sl ch R := by
  subst hj
  have hb' : (i.bytes : Int) * (j : Int) ≤ 281474976710656 := by
    have h1 : i.bytes * j ≤ 65536 * 1073741824 := Nat.mul_le_mul hb hn
    have h2 : ((i.bytes * j : Nat) : Int) ≤ 70368744177664 := by omega
    rw [Int.natCast_mul] at h2
    omega
  refine opk_make ho hx hy ht hi hz hsz hzs hzl hp (by omega) hb' (by omega) ?_
  simpa [List.map_replicate] using hR
/-- A slice literal. -/
theorem n_lit {α : Type} {enc : α → List Value} {t e : TypeId} {n : Nat} {ps : Array (Nat × Operand)} {z : Value} {sz : Nat} (vs : List Value) (ls : List α) (hu : ∀ w, (underlying t).run P w = .ok (.slice e) w) (hsz : ∀ w, (sizeOf e).run P w = .ok sz w) (hz : ∀ w, (zeroValue e).run P w = .ok z w)
    (hR : ∀ p : Addr, R (putS o.dst (.slice (some p) n n) sl) (⟨.slice (some p) n n, sz, ls.map enc⟩ :: ch))
    (ho : o.op = .buildSlice t n ps := by rfl) (hps : ps.toList.map (fun p => (p.1, kev N sl p.2)) = (List.range' 0 vs.length).zip (vs.map some) := by rfl) (hn : vs.length = n := by rfl) (hzl : z.cells.size = sz := by rfl)
    (hls : vs.map (fun v => v.cells.toList) = ls.map enc := by rfl) (hp : 0 < sz := by decide) (hb : n * sz ≤ 16777216 := by decide) (hv : ∀ v ∈ vs, v.cells.size = sz := by simp [Value.cells]) : OpK P N ro o sl ch R := by
  refine opk_buildSlice ho hps hn hu hsz hz hzl hp hv hb ?_
  intro p; rw [hls]; exact hR p
theorem ok_map {α : Type} {enc : α → List Value} {l : List α} (h : ∀ x, ∀ u ∈ enc x, u.oneCell' = true) : ∀ e ∈ l.map enc, ∀ u ∈ e, u.oneCell' = true := by
  intro e he
  obtain ⟨x, _, rfl⟩ := List.mem_map.1 he
  exact h x
/-- append. -/
theorem n_app {α : Type} {enc : α → List Value} {l m : List α} {t e : TypeId} {x y : Operand} {i : TypeInfo} {z : Value} {sz : Nat} {a b : Option Addr} {n c q c2 : Nat} {r : List Chunk} (hone : ∀ x, ∀ u ∈ enc x, u.oneCell' = true) (hlim : l.length + m.length ≤ 1073741824)
    (ht : P.underlying t = some (.slice e)) (hi : P.info? e = some i) (hb : i.bytes ≤ 65536)
     
    (hR : ∀ (a' : Option Addr) (c' : Nat), R (putS o.dst (.slice a' (l ++ m).length c') sl) (⟨.slice a' (l ++ m).length c', sz, (l ++ m).map enc⟩ :: r))
    (ho : o.op = .call { callee := .builtin .append, args := #[x, y], argTypes := #[t, t] } := by rfl)
    (hx : kev N sl x = some (.slice a n c) := by rfl) (hy : kev N sl y = some (.slice b q c2) := by rfl) (hm : (⟨.slice b q c2, sz, m.map enc⟩ : Chunk) ∈ ro ++ ch := by repeat (first | exact mh | apply mt | apply mas | apply ms)) (hp : Pick ch ⟨.slice a n c, sz, l.map enc⟩ r := by repeat (first | exact Pick.here | apply Pick.there | apply Pick.seg)) (hz : i.zero = some z := by rfl) (hsz : i.size = sz := by rfl) (hzl : z.cells.size = sz := by rfl) : OpK P N ro o sl ch R := by
  intro ac w hkn hs K Q hK
  have h1 := slice_len (hs.wok _ hp.mem)
  have h2 := chunk_len hs hm
  rw [List.length_map] at h1 h2
  have hbb : (n + q) * i.bytes ≤ 140737488355328 := by
    have := Nat.mul_le_mul (show n + q ≤ 1073741824 by omega) hb
    omega
  refine opk_append ho hx hy ht hi hz hsz hzl hm (ok_map hone) hp (by omega) hbb ?_ ac w hkn hs K Q hK
  intro a' c'
  have e1 : n + q = (l ++ m).length := by rw [List.length_append]; omega
  rw [e1, ← List.map_append]
  exact hR a' c'
/-- copy. -/
theorem n_copy {α : Type} {enc : α → List Value} {l m : List α} {t u e : TypeId} {x y : Operand} {sz : Nat} {a b : Option Addr} {n c q c2 : Nat} {r : List Chunk} (hone : ∀ x, ∀ u ∈ enc x, u.oneCell' = true)
    (ht : ∀ w, (underlying t).run P w = .ok (.slice e) w) (hsz : ∀ w, (sizeOf e).run P w = .ok sz w)  
    (hR : R (putS o.dst (.int .i64 ((min q n : Nat) : Int)) sl) (⟨.slice a n c, sz, (m.take (min q n) ++ l.drop (min q n)).map enc⟩ :: r))
    (ho : o.op = .call { callee := .builtin .copy, args := #[x, y], argTypes := #[t, u] } := by rfl) (hx : kev N sl x = some (.slice a n c) := by rfl) (hy : kev N sl y = some (.slice b q c2) := by rfl) (hm : (⟨.slice b q c2, sz, m.map enc⟩ : Chunk) ∈ ro ++ ch := by repeat (first | exact mh | apply mt | apply mas | apply ms)) (hp : Pick ch ⟨.slice a n c, sz, l.map enc⟩ r := by repeat (first | exact Pick.here | apply Pick.there | apply Pick.seg)) : OpK P N ro o sl ch R := by
  refine opk_copy ho hx hy ht hsz hm (ok_map hone) hp ?_
  rw [List.map_append, List.map_take, List.map_drop] at hR
  exact hR
end

/-! ### Heads of loops, and ways that meet -/
theorem hd_mk {S sl : Slots} {C ch : List Chunk} {p : Prop} (hp : p) (s : Knows S sl := by (repeat (first | exact Knows.nil _ | refine Knows.cons2 rfl (by rfl) ?_)))
    (c : Sub C ch := by (repeat (first | exact Sub.refl _ | exact Sub.nil _ | refine Sub.chunk (by repeat (first | exact Pick.here | apply Pick.there | apply Pick.seg)) (by rfl) ?_ | refine Sub.seg (by repeat (first | exact PickSeg.here | exact PickSeg.all | apply PickSeg.there | apply PickSeg.seg)) ?_ | exact Sub.seg0 (by repeat (first | exact PickSeg.here | exact PickSeg.all | apply PickSeg.there | apply PickSeg.seg)) | apply Sub.assoc))) : Hd S C p sl ch := ⟨hp, s, c⟩

/-- A way out of a loop, whose outcome is told. -/
def KOut {σ ε : Type} (b : Lp σ ε) (o : ε) (Q : Exit → KPred) : Exit → KPred := fun e sl ch => (∀ c, e ≠ .panic c) ∧ ∃ o', b = .out o' ∧ (o' = o → Q e sl ch)
theorem k_out {σ ε : Type} {b : Lp σ ε} {o o' : ε} {Q : Exit → KPred} {e : Exit} {sl : Slots} {ch : List Chunk} (h : o' = o → Q e sl ch) (hb : b = .out o') (hn : ∀ c, e ≠ .panic c := by nofun) : KOut b o Q e sl ch := ⟨hn, o', hb, h⟩
class NoPan (Q : Exit → KPred) : Prop where
  go : ∀ c s h, ¬ Q (.panic c) s h
instance npThen {n : KPred} {Q : Exit → KPred} [i : NoPan Q] : NoPan (KThen n Q) := ⟨fun c s h q => i.go c s h q⟩
instance npBlock {id : Nat} {Q : Exit → KPred} [i : NoPan Q] : NoPan (KBlock id Q) := ⟨fun c s h q => i.go c s h q⟩
instance npBody {fn : Func} {P : Program} {ro : List Chunk} {R : Value → List Chunk → Prop} : NoPan (KBody fn P ro R) := ⟨fun c s h q => q⟩
instance npOut {σ ε : Type} {b : Lp σ ε} {o : ε} {Q : Exit → KPred} : NoPan (KOut b o Q) := ⟨fun c s h q => q.1 c rfl⟩
theorem nopan {Q : Exit → KPred} [i : NoPan Q] : ∀ c s h, ¬ Q (.panic c) s h := i.go

theorem kwp_loopE {E : Env} {c : Code} {Q : Exit → KPred} {sl : Slots} {ch : List Chunk} {σ ε H : Type} (inv : Slots) (S : σ → H → Slots) (C : σ → H → List Chunk) (p : σ → H → Prop) {B : σ → O (Lp σ ε)} {s0 : σ} {o : ε}
    (ho : loop B s0 = some o) (h0 : ∃ η, Hd (S s0 η ++ inv) (C s0 η) (p s0 η) sl ch)
    (round : ∀ s η b, p s η → B s = some b → KWp E c (KThen (fun sl' ch' => ∃ s' η', b = .next s' ∧ Hd (S s' η' ++ inv) (C s' η') (p s' η') sl' ch') (KOut b o Q)) (S s η ++ inv) (C s η)) :
    KWp E (.loop c) Q sl ch := by
  obtain ⟨n, hn⟩ := loop_iter ho
  intro a w hi
  obtain ⟨η, hd⟩ := h0
  refine wp_loopN (fun n a w => ∃ s η, iter B n s = some o ∧ p s η ∧ In E (S s η ++ inv) (C s η) a w) (n := n) ⟨s0, η, hn, hd.p, hi.weak hd.s hd.c⟩ ?_
  rintro n a w ⟨s, η, hit, hp, hi⟩
  cases n with
  | zero => cases hit
  | succ n =>
    unfold iter at hit
    cases hb : B s with
    | none => rw [hb] at hit; cases hit
    | some b =>
      rw [hb] at hit
      refine Code.wp_mono ?_ (round s η b hp hb a w hi)
      rintro e a' w' ⟨s1, c1, q, i⟩
      cases e with
      | normal =>
        obtain ⟨s', η', rfl, hh⟩ := q
        exact ⟨n, by omega, s', η', hit, hh.p, i.weak hh.s hh.c⟩
      | _ =>
        obtain ⟨_, o', rfl, hq⟩ := q
        cases hit
        exact ⟨s1, c1, hq rfl, i⟩

/-- What is known at a normal end may be less. -/
class MonoN (Q : Exit → KPred) : Prop where
  go : ∀ {s1 s2 : Slots} {c1 c2 : List Chunk}, Knows s2 s1 → Sub c2 c1 → Q .normal s2 c2 → Q .normal s1 c1
theorem Knows.trans {a b c : Slots} (h : Knows a b) (g : Knows b c) : Knows a c := fun t v hv => g t v (h t v hv)
theorem Hd.weak {S : Slots} {C : List Chunk} {p : Prop} {s1 s2 : Slots} {c1 c2 : List Chunk} (g : Knows s2 s1) (s : Sub c2 c1) (h : Hd S C p s2 c2) : Hd S C p s1 c1 := ⟨h.p, h.s.trans g, h.c.trans s⟩
instance monoThen {E : Env} {y : Code} {Q Q' : Exit → KPred} : MonoN (KThen (KWp E y Q') Q) := ⟨fun g s h => kwp_weak g s h⟩
instance monoBlock {id : Nat} {Q : Exit → KPred} [i : MonoN Q] : MonoN (KBlock id Q) := ⟨fun g s h => i.go (Q := Q) g s h⟩
instance monoCut {H : Type} {S : H → Slots} {C : H → List Chunk} {p : H → Prop} {Q : Exit → KPred} : MonoN (KThen (fun sl ch => ∃ η, Hd (S η) (C η) (p η) sl ch) Q) := ⟨fun g s ⟨η, h⟩ => ⟨η, h.weak g s⟩⟩
instance monoCutO {τ H : Type} {q : τ → Prop} {S : τ → H → Slots} {C : τ → H → List Chunk} {p : τ → H → Prop} {Q : Exit → KPred} : MonoN (KThen (fun sl ch => ∃ z η, q z ∧ Hd (S z η) (C z η) (p z η) sl ch) Q) := ⟨fun g s ⟨z, η, hq, h⟩ => ⟨z, η, hq, h.weak g s⟩⟩
instance monoBody {fn : Func} {P : Program} {ro : List Chunk} {R : Value → List Chunk → Prop} : MonoN (KBody fn P ro R) :=
  ⟨fun g s ⟨r, ch', h1, h2, h3⟩ => ⟨r, ch', fun a w hk hs => h1 a w (hk.weak g) (hs.sub s), h2, h3.trans s⟩⟩

/-- Ways that meet behind a piece of code: `e1` tells what is known there. -/
theorem kwp_cutE {E : Env} {x : Code} {Q : Exit → KPred} {sl : Slots} {ch : List Chunk} {τ H ρ : Type} (inv : Slots) (S : τ → H → Slots) (C : τ → H → List Chunk) (p : τ → H → Prop) {e1 : O τ} {k : τ → O ρ} {r : ρ}
    (h : Option.bind e1 k = some r) [i : MonoN Q] (hx : ∀ t, e1 = some t → KWp E x (KThen (fun sl' ch' => ∃ η, Hd (S t η ++ inv) (C t η) (p t η) sl' ch') Q) sl ch)
    (hy : ∀ t η, p t η → k t = some r → Q .normal (S t η ++ inv) (C t η)) : KWp E x Q sl ch := by
  obtain ⟨t, h1, h2⟩ := e_bind h
  refine kwp_mono (hx t h1) ?_
  intro e s c q
  cases e <;> first | (obtain ⟨η, hh⟩ := q; exact i.go hh.s hh.c (hy t η hh.p h2)) | exact q

/-- The same, where some ways go elsewhere. -/
theorem kwp_cutO {E : Env} {x : Code} {Q : Exit → KPred} {sl : Slots} {ch : List Chunk} {τ ω H ρ : Type} (inv : Slots) (S : τ → H → Slots) (C : τ → H → List Chunk) (p : τ → H → Prop) {e1 : O (τ ⊕ ω)} {k : τ ⊕ ω → O ρ} {r : ρ}
    (h : Option.bind e1 k = some r) [i : MonoN Q] (hx : ∀ t, e1 = some t → k t = some r → KWp E x (KThen (fun sl' ch' => ∃ z η, t = .inl z ∧ Hd (S z η ++ inv) (C z η) (p z η) sl' ch') Q) sl ch)
    (hy : ∀ z η, p z η → k (.inl z) = some r → Q .normal (S z η ++ inv) (C z η)) : KWp E x Q sl ch := by
  obtain ⟨t, h1, h2⟩ := e_bind h
  refine kwp_mono (hx t h1 h2) ?_
  intro e s c q
  cases e <;> first | (obtain ⟨z, η, rfl, hh⟩ := q; exact i.go hh.s hh.c (hy z η hh.p h2)) | exact q

/-- What the memory tells of a slice's length. -/
theorem k_len {E : Env} {co : Code} {Q : Exit → KPred} {sl : Slots} {ch : List Chunk} {α : Type} {enc : α → List Value} {l : List α} {a : Option Addr} {n c sz : Nat} (h : n = l.length → KWp E co Q sl ch)
    (hm : (⟨.slice a n c, sz, l.map enc⟩ : Chunk) ∈ E.ro ++ ch := by repeat (first | exact mh | apply mt | apply mas | apply ms)) : KWp E co Q sl ch := kwp_len hm (fun hn => h (by rw [hn, List.length_map]))
theorem kseq_nilchunk {E : Env} {ops : Array Oper} {fins : List Nat} {cq : List Chunk} {Q : Exit → KPred} {l : List (Nat × Bool)} {sl : Slots} {ch : List Chunk} (sz : Nat) : True := trivial

/-! ### Calls and results -/
theorem kops_skipU {E : Env} {ops : Array Oper} {Q : Exit → KPred} {o : Oper} {l : List Oper} {sl : Slots} {ch : List Chunk} {j d : Nat} {want : Bool}
    (hR : KOps E ops Q l (putS o.dst undef sl) ch) (hg : o.guard = some (j, want) := by rfl) (hj : (ops[j]?).bind (·.dst) = some d := by rfl) (hb : kev E.N sl (.tmp d) = some undef := by rfl) : KOps E ops Q (o :: l) sl ch := by
  intro a w hi
  have hv := hi.kn.ev hb
  have hyl : yielded ops a.tmps j = none := by
    simp only [yielded, hj, Option.bind_some]
    simp only [Act.eval, Array.getD_eq_getD_getElem?] at hv
    cases h : a.tmps[d]? with
    | none => rfl
    | some x =>
      rw [h] at hv
      simp only [Option.getD_some] at hv
      subst hv
      rfl
  unfold wpList
  rw [if_neg (by simp [Region.wanted, hg, hyl])]
  exact hR _ w ⟨hi.kn.put _ _, hi.st, hi.ext⟩
theorem sp {p : Prop} (b : Bool) (ht : b = true → p) (hf : b = false → p) : p := by cases b; exact hf rfl; exact ht rfl
/-- Nothing but headers is forgotten. -/
theorem kwp_cutS {E : Env} {x : Code} {Q : Exit → KPred} {sl : Slots} {ch : List Chunk} {H : Type} (inv : Slots) (S : H → Slots) (C : H → List Chunk) (p : H → Prop) [i : MonoN Q]
    (hx : KWp E x (KThen (fun sl' ch' => ∃ η, Hd (S η ++ inv) (C η) (p η) sl' ch') Q) sl ch) (hy : ∀ η, p η → Q .normal (S η ++ inv) (C η)) : KWp E x Q sl ch := by
  refine kwp_mono hx ?_
  intro e s c q
  cases e <;> first | (obtain ⟨η, hh⟩ := q; exact i.go hh.s hh.c (hy η hh.p)) | exact q
/-- The address of a part of a slice. -/
def subA (a : Option Addr) (c sz l : Nat) : Option Addr := if c = l then a else a.map (·.add (l * sz))
theorem view_cut {α : Type} {enc : α → List Value} {L : List α} {a : Option Addr} {n c sz l h : Nat} (hlh : l ≤ h) (hn : h ≤ n) : View ⟨.slice a n c, sz, L.map enc⟩ ⟨.slice (subA a c sz l) (h - l) (c - l), sz, ((L.drop l).take (h - l)).map enc⟩ := by
  have e : ((L.drop l).take (h - l)).map enc = ((L.map enc).drop l).take (h - l) := by rw [List.map_take, List.map_drop]
  rw [e]; exact View.cut hlh hn
theorem In.view {E : Env} {sl : Slots} {ch : List Chunk} {c0 c : Chunk} {a : Act} {w : World} (hv : View c0 c) (hm : c0 ∈ E.ro) (hi : In E sl ch a w) : In { E with ro := c :: E.ro } sl ch a w := by
  have h0 := hv w (hi.st.rok _ hm)
  exact ⟨hi.kn, ⟨fun d hd => by rcases List.mem_cons.1 hd with rfl | hd; exact h0.1; exact hi.st.rok _ hd, hi.st.wok, hi.st.pw, fun d hd e he b hb => by
    rcases List.mem_cons.1 hd with rfl | hd
    · exact hi.st.rs _ hm _ he _ (h0.2 b hb)
    · exact hi.st.rs _ hd _ he _ hb⟩, hi.ext⟩
theorem In.unview {E : Env} {sl : Slots} {ch : List Chunk} {c : Chunk} {a : Act} {w : World} (hi : In { E with ro := c :: E.ro } sl ch a w) : In E sl ch a w :=
  ⟨hi.kn, ⟨fun d hd => hi.st.rok _ (List.mem_cons_of_mem _ hd), hi.st.wok, hi.st.pw, fun d hd => hi.st.rs _ (List.mem_cons_of_mem _ hd)⟩, hi.ext⟩
theorem post_unview {E : Env} {Q : Exit → KPred} {c : Chunk} {e : Exit} {a : Act} {w : World} (h : post { E with ro := c :: E.ro } Q e a w) : post E Q e a w := by
  obtain ⟨s, cc, q, i⟩ := h
  exact ⟨s, cc, q, i.unview⟩
/-- A part of what may be read may be read. -/
theorem kwp_view {E : Env} {x : Code} {Q : Exit → KPred} {sl : Slots} {ch : List Chunk} {c0 c : Chunk} (hv : View c0 c) (h : KWp { E with ro := c :: E.ro } x Q sl ch) (hm : c0 ∈ E.ro := by repeat (first | exact mh | apply mt | apply mas | apply ms)) : KWp E x Q sl ch :=
  fun a w hi => Code.wp_mono (fun _ _ _ q => post_unview q) (h a w (hi.view hv hm))
theorem kops_shr {E : Env} {ops : Array Oper} {Q : Exit → KPred} {ls : List Oper} {sl : Slots} {ch ch' : List Chunk} {α : Type} {enc : α → List Value} {L : List α} {a : Option Addr} {n c sz l h : Nat} (hlh : l ≤ h) (hn : h ≤ n)
    (hR : KOps E ops Q ls sl ch') (u : Upd ch ⟨.slice a n c, sz, L.map enc⟩ ⟨.slice (subA a c sz l) (h - l) (c - l), sz, ((L.drop l).take (h - l)).map enc⟩ ch' := by repeat (first | exact Upd.here | apply Upd.there | apply Upd.seg)) : KOps E ops Q ls sl ch := by
  have e : ((L.drop l).take (h - l)).map enc = ((L.map enc).drop l).take (h - l) := by rw [List.map_take, List.map_drop]
  rw [e] at u
  exact kops_shrink hlh hn u hR

section
variable {P : Program} {N : Nat} {ro ch : List Chunk} {o : Oper} {sl : Slots}
theorem v_nc {x : Operand} {p : Addr} (ho : o.op = .nilCheck x := by rfl) (hx : kev N sl x = some (.pointer (some p)) := by rfl) : OpV P N ro ch o sl (.pointer (some p)) :=
  fun a w hkn _ => by unfold execOp; simp [ho, hkn.ev hx]
end

section
variable {P : Program} {N : Nat} {ro ch rest : List Chunk} {o : Oper} {sl : Slots} {R : KPred}
theorem n_call {f : FuncId} {xs : Array Operand} {ts : Array TypeId} {vs : List Value} {roC rwC : List Chunk} {G : Value → List Chunk → Prop}
    (hcall : ∀ (args : Array Value) (w : World), (callFunc f args).run P w = .ok (.enter f args) w) (ht : Triple P f vs roC rwC G)  
    (h : ∀ r c', G r c' → R (putS o.dst r sl) (c' ++ rest)) (ho : o.op = .call { callee := .value (.func f), args := xs, argTypes := ts } := by rfl) (hx : xs.toList.map (kev N sl) = vs.map some := by rfl) (hp : ch.Perm (rwC ++ rest) := by first | exact perm_nil _ | exact (perm_cons (by repeat (first | exact Pick.here | apply Pick.there | apply Pick.seg)) (perm_nil _)) | exact (perm_cons (by repeat (first | exact Pick.here | apply Pick.there | apply Pick.seg)) (perm_cons (by repeat (first | exact Pick.here | apply Pick.there | apply Pick.seg)) (perm_nil _))) | exact (perm_cons (by repeat (first | exact Pick.here | apply Pick.there | apply Pick.seg)) (perm_cons (by repeat (first | exact Pick.here | apply Pick.there | apply Pick.seg)) (perm_cons (by repeat (first | exact Pick.here | apply Pick.there | apply Pick.seg)) (perm_nil _)))) | exact (perm_cons (by repeat (first | exact Pick.here | apply Pick.there | apply Pick.seg)) (perm_cons (by repeat (first | exact Pick.here | apply Pick.there | apply Pick.seg)) (perm_cons (by repeat (first | exact Pick.here | apply Pick.there | apply Pick.seg)) (perm_cons (by repeat (first | exact Pick.here | apply Pick.there | apply Pick.seg)) (perm_nil _))))) | exact (perm_mat (by repeat (first | exact Pick.here | apply Pick.there | apply Pick.seg)) (by repeat (first | exact PickSeg.here | exact PickSeg.all | apply PickSeg.there | apply PickSeg.seg))) | exact (perm_cons2 (by repeat (first | exact Pick.here | apply Pick.there | apply Pick.seg)) (perm_mat (by repeat (first | exact Pick.here | apply Pick.there | apply Pick.seg)) (by repeat (first | exact PickSeg.here | exact PickSeg.all | apply PickSeg.there | apply PickSeg.seg))))) (hv : Views (ro ++ rest) roC := by (repeat (first | exact Views.nil _ | refine Views.cons (by repeat (first | exact mh | apply mt | apply mas | apply ms)) (View.refl _) ?_ | refine Views.seg (by repeat (first | exact sub_here | exact sub_self | apply sub_there | apply sub_assoc | apply sub_seg)) ?_ | exact Views.seg0 (by repeat (first | exact sub_here | exact sub_self | apply sub_there | apply sub_assoc | apply sub_seg))))) : OpK P N ro o sl ch R := opk_call ho hcall hx ht hp hv h
end

section
variable {fn : Func} {P : Program} {ro ch : List Chunk} {R : Value → List Chunk → Prop} {sl : Slots}
theorem r1 {t : Nat} {v : Value} (ch' : List Chunk)  (hR : R v ch') (hr : fn.results = #[.tmp t] := by rfl) (hs : Sub ch' ch := by (repeat (first | exact Sub.refl _ | exact Sub.nil _ | refine Sub.chunk (by repeat (first | exact Pick.here | apply Pick.there | apply Pick.seg)) (by rfl) ?_ | refine Sub.seg (by repeat (first | exact PickSeg.here | exact PickSeg.all | apply PickSeg.there | apply PickSeg.seg)) ?_ | exact Sub.seg0 (by repeat (first | exact PickSeg.here | exact PickSeg.all | apply PickSeg.there | apply PickSeg.seg)) | apply Sub.assoc))) (hv : kev fn.ntmps sl (.tmp t) = some v := by rfl) : KBody fn P ro R .ret sl ch := kret1 ch' hr hv hR hs
theorem r2 {t u : Nat} {v x : Value} (ch' : List Chunk)  (hR : R (.tuple #[v, x]) ch') (hr : fn.results = #[.tmp t, .tmp u] := by rfl) (hs : Sub ch' ch := by (repeat (first | exact Sub.refl _ | exact Sub.nil _ | refine Sub.chunk (by repeat (first | exact Pick.here | apply Pick.there | apply Pick.seg)) (by rfl) ?_ | refine Sub.seg (by repeat (first | exact PickSeg.here | exact PickSeg.all | apply PickSeg.there | apply PickSeg.seg)) ?_ | exact Sub.seg0 (by repeat (first | exact PickSeg.here | exact PickSeg.all | apply PickSeg.there | apply PickSeg.seg)) | apply Sub.assoc))) (hv : kev fn.ntmps sl (.tmp t) = some v := by rfl) (hx : kev fn.ntmps sl (.tmp u) = some x := by rfl) : KBody fn P ro R .ret sl ch := kret2 ch' hr hv hx hR hs
theorem r3 {t u s : Nat} {v x y : Value} (ch' : List Chunk)  (hR : R (.tuple #[v, x, y]) ch') (hr : fn.results = #[.tmp t, .tmp u, .tmp s] := by rfl) (hs : Sub ch' ch := by (repeat (first | exact Sub.refl _ | exact Sub.nil _ | refine Sub.chunk (by repeat (first | exact Pick.here | apply Pick.there | apply Pick.seg)) (by rfl) ?_ | refine Sub.seg (by repeat (first | exact PickSeg.here | exact PickSeg.all | apply PickSeg.there | apply PickSeg.seg)) ?_ | exact Sub.seg0 (by repeat (first | exact PickSeg.here | exact PickSeg.all | apply PickSeg.there | apply PickSeg.seg)) | apply Sub.assoc))) (hv : kev fn.ntmps sl (.tmp t) = some v := by rfl) (hx : kev fn.ntmps sl (.tmp u) = some x := by rfl) (hy : kev fn.ntmps sl (.tmp s) = some y := by rfl) : KBody fn P ro R .ret sl ch := kret3 ch' hr hv hx hy hR hs
theorem r0 (ch' : List Chunk)  (hR : R (.tuple #[]) ch') (hr : fn.results = #[] := by rfl) (hs : Sub ch' ch := by (repeat (first | exact Sub.refl _ | exact Sub.nil _ | refine Sub.chunk (by repeat (first | exact Pick.here | apply Pick.there | apply Pick.seg)) (by rfl) ?_ | refine Sub.seg (by repeat (first | exact PickSeg.here | exact PickSeg.all | apply PickSeg.there | apply PickSeg.seg)) ?_ | exact Sub.seg0 (by repeat (first | exact PickSeg.here | exact PickSeg.all | apply PickSeg.there | apply PickSeg.seg)) | apply Sub.assoc))) : KBody fn P ro R .ret sl ch := kret0 ch' hr hR hs
theorem r0n (ch' : List Chunk)  (hR : R (.tuple #[]) ch') (hr : fn.results = #[] := by rfl) (hs : Sub ch' ch := by (repeat (first | exact Sub.refl _ | exact Sub.nil _ | refine Sub.chunk (by repeat (first | exact Pick.here | apply Pick.there | apply Pick.seg)) (by rfl) ?_ | refine Sub.seg (by repeat (first | exact PickSeg.here | exact PickSeg.all | apply PickSeg.there | apply PickSeg.seg)) ?_ | exact Sub.seg0 (by repeat (first | exact PickSeg.here | exact PickSeg.all | apply PickSeg.there | apply PickSeg.seg)) | apply Sub.assoc))) : KBody fn P ro R .normal sl ch := kend0 ch' hr hR hs
theorem rc {t : Nat} {ty : TypeId} {p : Addr} {sz : Nat} {e : List Value} (hag : ∀ w, (isAgg ty).run P w = .ok true w) (hsz : ∀ w, (sizeOf ty).run P w = .ok sz w) (ch' : List Chunk)
      (hR : R (.agg e.toArray) ch') (hr : fn.results = #[.cell t ty] := by rfl) (ht : kev fn.ntmps sl (.tmp t) = some (.pointer (some p)) := by rfl) (hm : (⟨.pointer (some p), sz, [e]⟩ : Chunk) ∈ ro ++ ch := by repeat (first | exact mh | apply mt | apply mas | apply ms)) (hs : Sub ch' ch := by (repeat (first | exact Sub.refl _ | exact Sub.nil _ | refine Sub.chunk (by repeat (first | exact Pick.here | apply Pick.there | apply Pick.seg)) (by rfl) ?_ | refine Sub.seg (by repeat (first | exact PickSeg.here | exact PickSeg.all | apply PickSeg.there | apply PickSeg.seg)) ?_ | exact Sub.seg0 (by repeat (first | exact PickSeg.here | exact PickSeg.all | apply PickSeg.there | apply PickSeg.seg)) | apply Sub.assoc))) : KBody fn P ro R .ret sl ch := kretc ch' hr ht hag hsz hm hR hs
theorem rcc {t u : Nat} {ty ty2 : TypeId} {p p2 : Addr} {sz sz2 : Nat} {e e2 : List Value} (hag : ∀ w, (isAgg ty).run P w = .ok true w) (hsz : ∀ w, (sizeOf ty).run P w = .ok sz w) (hag2 : ∀ w, (isAgg ty2).run P w = .ok true w) (hsz2 : ∀ w, (sizeOf ty2).run P w = .ok sz2 w) (ch' : List Chunk)
    (hR : R (.tuple #[.agg e.toArray, .agg e2.toArray]) ch') (hr : fn.results = #[.cell t ty, .cell u ty2] := by rfl) (ht : kev fn.ntmps sl (.tmp t) = some (.pointer (some p)) := by rfl) (ht2 : kev fn.ntmps sl (.tmp u) = some (.pointer (some p2)) := by rfl)
    (hm : (⟨.pointer (some p), sz, [e]⟩ : Chunk) ∈ ro ++ ch := by repeat (first | exact mh | apply mt | apply mas | apply ms)) (hm2 : (⟨.pointer (some p2), sz2, [e2]⟩ : Chunk) ∈ ro ++ ch := by repeat (first | exact mh | apply mt | apply mas | apply ms))
    (hs : Sub ch' ch := by (repeat (first | exact Sub.refl _ | exact Sub.nil _ | refine Sub.chunk (by repeat (first | exact Pick.here | apply Pick.there | apply Pick.seg)) (by rfl) ?_ | refine Sub.seg (by repeat (first | exact PickSeg.here | exact PickSeg.all | apply PickSeg.there | apply PickSeg.seg)) ?_ | exact Sub.seg0 (by repeat (first | exact PickSeg.here | exact PickSeg.all | apply PickSeg.there | apply PickSeg.seg)) | apply Sub.assoc))) : KBody fn P ro R .ret sl ch :=
  ⟨_, ch', fun a w hk hst => by
    have h1 := cell_run ht hag hsz hm a w hk hst
    have h2 := cell_run ht2 hag2 hsz2 hm2 a w hk hst
    simp only [Array.getD_eq_getD_getElem?, Sem.run_bind] at h1 h2
    simp only [results, hr]
    simp
    generalize (asAddr (a.tmps[t]?.getD undef)).run P w = r at h1 ⊢
    cases r with
    | halt h w1 => simp at h1
    | ok ad w1 =>
      simp only [Result.andThen_ok] at h1 ⊢
      rw [h1]
      simp only [Result.andThen_ok]
      generalize (asAddr (a.tmps[u]?.getD undef)).run P w = r2 at h2 ⊢
      cases r2 with
      | halt h w2 => simp at h2
      | ok ad2 w2 => simp only [Result.andThen_ok] at h2 ⊢; rw [h2]; rfl, hR, hs⟩
theorem rcc1 {t u s : Nat} {ty ty2 : TypeId} {p p2 : Addr} {sz sz2 : Nat} {e e2 : List Value} {x : Value} (hag : ∀ w, (isAgg ty).run P w = .ok true w) (hsz : ∀ w, (sizeOf ty).run P w = .ok sz w) (hag2 : ∀ w, (isAgg ty2).run P w = .ok true w) (hsz2 : ∀ w, (sizeOf ty2).run P w = .ok sz2 w) (ch' : List Chunk)
    (hR : R (.tuple #[.agg e.toArray, .agg e2.toArray, x]) ch') (hr : fn.results = #[.cell t ty, .cell u ty2, .tmp s] := by rfl) (ht : kev fn.ntmps sl (.tmp t) = some (.pointer (some p)) := by rfl) (ht2 : kev fn.ntmps sl (.tmp u) = some (.pointer (some p2)) := by rfl) (hx : kev fn.ntmps sl (.tmp s) = some x := by rfl)
    (hm : (⟨.pointer (some p), sz, [e]⟩ : Chunk) ∈ ro ++ ch := by repeat (first | exact mh | apply mt | apply mas | apply ms)) (hm2 : (⟨.pointer (some p2), sz2, [e2]⟩ : Chunk) ∈ ro ++ ch := by repeat (first | exact mh | apply mt | apply mas | apply ms))
    (hs : Sub ch' ch := by (repeat (first | exact Sub.refl _ | exact Sub.nil _ | refine Sub.chunk (by repeat (first | exact Pick.here | apply Pick.there | apply Pick.seg)) (by rfl) ?_ | refine Sub.seg (by repeat (first | exact PickSeg.here | exact PickSeg.all | apply PickSeg.there | apply PickSeg.seg)) ?_ | exact Sub.seg0 (by repeat (first | exact PickSeg.here | exact PickSeg.all | apply PickSeg.there | apply PickSeg.seg)) | apply Sub.assoc))) : KBody fn P ro R .ret sl ch :=
  ⟨_, ch', fun a w hk hst => by
    have h1 := cell_run ht hag hsz hm a w hk hst
    have h2 := cell_run ht2 hag2 hsz2 hm2 a w hk hst
    have h3 := hk.ev hx
    simp only [Act.eval, Array.getD_eq_getD_getElem?] at h3
    simp only [Array.getD_eq_getD_getElem?, Sem.run_bind] at h1 h2
    simp only [results, hr]
    simp [h3]
    generalize (asAddr (a.tmps[t]?.getD undef)).run P w = r at h1 ⊢
    cases r with
    | halt h w1 => simp at h1
    | ok ad w1 =>
      simp only [Result.andThen_ok] at h1 ⊢
      rw [h1]
      simp only [Result.andThen_ok]
      generalize (asAddr (a.tmps[u]?.getD undef)).run P w = r2 at h2 ⊢
      cases r2 with
      | halt h w2 => simp at h2
      | ok ad2 w2 => simp only [Result.andThen_ok] at h2 ⊢; rw [h2]; rfl, hR, hs⟩
theorem rc2 {t u s : Nat} {ty : TypeId} {p : Addr} {sz : Nat} {e : List Value} {x y : Value} (hag : ∀ w, (isAgg ty).run P w = .ok true w) (hsz : ∀ w, (sizeOf ty).run P w = .ok sz w) (ch' : List Chunk)
    (hR : R (.tuple #[.agg e.toArray, x, y]) ch') (hr : fn.results = #[.cell t ty, .tmp u, .tmp s] := by rfl) (ht : kev fn.ntmps sl (.tmp t) = some (.pointer (some p)) := by rfl) (hx : kev fn.ntmps sl (.tmp u) = some x := by rfl) (hy : kev fn.ntmps sl (.tmp s) = some y := by rfl)
    (hm : (⟨.pointer (some p), sz, [e]⟩ : Chunk) ∈ ro ++ ch := by repeat (first | exact mh | apply mt | apply mas | apply ms))
    (hs : Sub ch' ch := by (repeat (first | exact Sub.refl _ | exact Sub.nil _ | refine Sub.chunk (by repeat (first | exact Pick.here | apply Pick.there | apply Pick.seg)) (by rfl) ?_ | refine Sub.seg (by repeat (first | exact PickSeg.here | exact PickSeg.all | apply PickSeg.there | apply PickSeg.seg)) ?_ | exact Sub.seg0 (by repeat (first | exact PickSeg.here | exact PickSeg.all | apply PickSeg.there | apply PickSeg.seg)) | apply Sub.assoc))) : KBody fn P ro R .ret sl ch :=
  ⟨_, ch', fun a w hk hst => by
    have := cell_run ht hag hsz hm a w hk hst
    have h2 := hk.ev hx
    have h3 := hk.ev hy
    simp only [Act.eval, Array.getD_eq_getD_getElem?] at h2 h3
    simp only [Array.getD_eq_getD_getElem?, Sem.run_bind] at this
    simp only [results, hr]
    simp [h2, h3]
    generalize (asAddr (a.tmps[t]?.getD undef)).run P w = r at this ⊢
    cases r with
    | ok ad w1 =>
      simp only [Result.andThen_ok] at this ⊢
      rw [this]; rfl
    | halt h w1 => simp at this, hR, hs⟩
theorem rc4 {t u s q z : Nat} {ty : TypeId} {p : Addr} {sz : Nat} {e : List Value} {x y x2 y2 : Value} (hag : ∀ w, (isAgg ty).run P w = .ok true w) (hsz : ∀ w, (sizeOf ty).run P w = .ok sz w) (ch' : List Chunk)
    (hR : R (.tuple #[.agg e.toArray, x, y, x2, y2]) ch') (hr : fn.results = #[.cell t ty, .tmp u, .tmp s, .tmp q, .tmp z] := by rfl) (ht : kev fn.ntmps sl (.tmp t) = some (.pointer (some p)) := by rfl) (hx : kev fn.ntmps sl (.tmp u) = some x := by rfl) (hy : kev fn.ntmps sl (.tmp s) = some y := by rfl)
    (hx2 : kev fn.ntmps sl (.tmp q) = some x2 := by rfl) (hy2 : kev fn.ntmps sl (.tmp z) = some y2 := by rfl)
    (hm : (⟨.pointer (some p), sz, [e]⟩ : Chunk) ∈ ro ++ ch := by repeat (first | exact mh | apply mt | apply mas | apply ms))
    (hs : Sub ch' ch := by (repeat (first | exact Sub.refl _ | exact Sub.nil _ | refine Sub.chunk (by repeat (first | exact Pick.here | apply Pick.there | apply Pick.seg)) (by rfl) ?_ | refine Sub.seg (by repeat (first | exact PickSeg.here | exact PickSeg.all | apply PickSeg.there | apply PickSeg.seg)) ?_ | exact Sub.seg0 (by repeat (first | exact PickSeg.here | exact PickSeg.all | apply PickSeg.there | apply PickSeg.seg)) | apply Sub.assoc))) : KBody fn P ro R .ret sl ch :=
  ⟨_, ch', fun a w hk hst => by
    have := cell_run ht hag hsz hm a w hk hst
    have h2 := hk.ev hx
    have h3 := hk.ev hy
    have h4 := hk.ev hx2
    have h5 := hk.ev hy2
    simp only [Act.eval, Array.getD_eq_getD_getElem?] at h2 h3 h4 h5
    simp only [Array.getD_eq_getD_getElem?, Sem.run_bind] at this
    simp only [results, hr]
    simp [h2, h3, h4, h5]
    generalize (asAddr (a.tmps[t]?.getD undef)).run P w = r at this ⊢
    cases r with
    | ok ad w1 =>
      simp only [Result.andThen_ok] at this ⊢
      rw [this]; rfl
    | halt h w1 => simp at this, hR, hs⟩
theorem rc1 {t u : Nat} {ty : TypeId} {p : Addr} {sz : Nat} {e : List Value} {x : Value} (hag : ∀ w, (isAgg ty).run P w = .ok true w) (hsz : ∀ w, (sizeOf ty).run P w = .ok sz w) (ch' : List Chunk)
      (hR : R (.tuple #[.agg e.toArray, x]) ch') (hr : fn.results = #[.cell t ty, .tmp u] := by rfl) (ht : kev fn.ntmps sl (.tmp t) = some (.pointer (some p)) := by rfl) (hm : (⟨.pointer (some p), sz, [e]⟩ : Chunk) ∈ ro ++ ch := by repeat (first | exact mh | apply mt | apply mas | apply ms)) (hs : Sub ch' ch := by (repeat (first | exact Sub.refl _ | exact Sub.nil _ | refine Sub.chunk (by repeat (first | exact Pick.here | apply Pick.there | apply Pick.seg)) (by rfl) ?_ | refine Sub.seg (by repeat (first | exact PickSeg.here | exact PickSeg.all | apply PickSeg.there | apply PickSeg.seg)) ?_ | exact Sub.seg0 (by repeat (first | exact PickSeg.here | exact PickSeg.all | apply PickSeg.there | apply PickSeg.seg)) | apply Sub.assoc)))
    (hx : kev fn.ntmps sl (.tmp u) = some x := by rfl) : KBody fn P ro R .ret sl ch := kretc1 ch' hr ht hag hsz hm hx hR hs
end
end Go.Proofs.YtpfijnklnljccaaDoor
