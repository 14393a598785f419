/- Plain functions: water, heights of sills, flows. -/
import Derived.Test.YtfgialdcilldiaaPb
namespace Go.Proofs.Ytfgialdcilldiaa
open Go
set_option linter.unusedVariables false
set_option linter.unusedSimpArgs false

theorem vt {p : Prop} (h : p) : Value.bool true = .bool (dec p) := by rw [dec_t h]
theorem vf {p : Prop} (h : ¬ p) : Value.bool false = .bool (dec p) := by rw [dec_f h]
/-! ### Water -/
def waterTo (F A : List Int) (lv : Int) : Nat → Int
  | 0 => 0
  | k + 1 => waterTo F A lv k + gx A k * max (lv - gx F k) 0
theorem mul_bd {x y a b : Int} (hx : 0 ≤ x ∧ x ≤ a) (hy : 0 ≤ y ∧ y ≤ b) : 0 ≤ x * y ∧ x * y ≤ a * b :=
  ⟨Int.mul_nonneg hx.1 hy.1, Int.mul_le_mul hx.2 hy.2 hy.1 (by omega)⟩
theorem water_bd {f a lv : Int} (h0 : 0 ≤ f ∧ f ≤ 40) (h1 : 1 ≤ a ∧ a ≤ 9) (h2 : 0 ≤ lv ∧ lv ≤ 40) : 0 ≤ a * max (lv - f) 0 ∧ a * max (lv - f) 0 ≤ 360 := by
  have := mul_bd (x := a) (y := max (lv - f) 0) (a := 9) (b := 40) (by omega) (by omega)
  omega
theorem waterTo_bd {F A : List Int} {lv : Int} {n : Nat} (hf : ∀ k, k < n → 0 ≤ gx F k ∧ gx F k ≤ 40) (ha : ∀ k, k < n → 1 ≤ gx A k ∧ gx A k ≤ 9) (h2 : 0 ≤ lv ∧ lv ≤ 40) : ∀ k, k ≤ n → 0 ≤ waterTo F A lv k ∧ waterTo F A lv k ≤ 360 * k
  | 0, _ => by simp [waterTo]
  | k + 1, hk => by
    have h := waterTo_bd hf ha h2 k (by omega)
    have h3 := water_bd (hf k (by omega)) (ha k (by omega)) h2
    simp only [waterTo]; omega
noncomputable def waterAt (F A : List Int) (S : List Sill) (lv : Int) : Int := if dec (CaveOk F A S ∧ (0 ≤ lv ∧ lv ≤ 40)) then waterTo F A lv F.length else -1
theorem waterAt_t {F A : List Int} {S : List Sill} {lv : Int} (h : CaveOk F A S) (h2 : 0 ≤ lv ∧ lv ≤ 40) : waterAt F A S lv = waterTo F A lv F.length := by simp [waterAt, dec_t (And.intro h h2)]
theorem waterAt_f {F A : List Int} {S : List Sill} {lv : Int} (h : ¬ (CaveOk F A S ∧ (0 ≤ lv ∧ lv ≤ 40))) : waterAt F A S lv = -1 := by simp [waterAt, dec_f h]

/-! ### Heights of sills -/
def AreIx (l : List Int) (n : Int) : Prop := ∀ k, k < l.length → 0 ≤ gx l k ∧ gx l k < n
def highTo (S : List Sill) (some : List Int) : Nat → Int
  | 0 => 0
  | k + 1 => highTo S some k + (gx S (gx some k).toNat).high
theorem high_bd {F A : List Int} {S : List Sill} (h : CaveOk F A S) {j : Nat} (hj : j < S.length) : 0 ≤ (gx S j).high ∧ (gx S j).high ≤ 40 := by
  obtain ⟨h1, h2, h3, h4, h5, h6, h7, h8⟩ := h.sl j hj
  have := h.fl (gx S j).a.toNat (by omega)
  omega
theorem highTo_bd {F A : List Int} {S : List Sill} {some : List Int} {n : Nat} (h : CaveOk F A S) (hs : ∀ k, k < n → 0 ≤ gx some k ∧ gx some k < S.length) : ∀ k, k ≤ n → 0 ≤ highTo S some k ∧ highTo S some k ≤ 40 * k
  | 0, _ => by simp [highTo]
  | k + 1, hk => by
    have h1 := highTo_bd h hs k (by omega)
    have h2 := hs k (by omega)
    have h3 := high_bd h (j := (gx some k).toNat) (by omega)
    simp only [highTo]; omega
noncomputable def sillsHigh (F A : List Int) (S : List Sill) (some : List Int) : Int := if dec (CaveOk F A S ∧ AreIx some S.length) then highTo S some some.length else -1
theorem sillsHigh_t {F A : List Int} {S : List Sill} {some : List Int} (h : CaveOk F A S) (h2 : AreIx some S.length) : sillsHigh F A S some = highTo S some some.length := by simp [sillsHigh, dec_t (And.intro h h2)]
theorem sillsHigh_f {F A : List Int} {S : List Sill} {some : List Int} (h : ¬ (CaveOk F A S ∧ AreIx some S.length)) : sillsHigh F A S some = -1 := by simp [sillsHigh, dec_f h]

/-! ### Flows -/
def addAt (L : List Int) (i : Nat) (x : Int) : List Int := L.set i (gx L i + x)
def subAt (L : List Int) (i : Nat) (x : Int) : List Int := L.set i (gx L i - x)
theorem addAt_len {L : List Int} {i : Nat} {x : Int} : (addAt L i x).length = L.length := by simp [addAt]
theorem subAt_len {L : List Int} {i : Nat} {x : Int} : (subAt L i x).length = L.length := by simp [subAt]
theorem gx_addAt {L : List Int} {i j : Nat} {x : Int} (h : i < L.length) : gx (addAt L i x) j = if i = j then gx L i + x else gx L j := gx_set h
theorem gx_subAt {L : List Int} {i j : Nat} {x : Int} (h : i < L.length) : gx (subAt L i x) j = if i = j then gx L i - x else gx L j := gx_set h
def flowOut (n : Nat) (l : List Airway) (fl : List Int) : Nat → List Int
  | 0 => List.replicate n 0
  | k + 1 => subAt (addAt (flowOut n l fl k) (gx l k).f.toNat (gx fl k)) (gx l k).t.toNat (gx fl k)
theorem flowOut_len {n : Nat} {l : List Airway} {fl : List Int} : ∀ {k : Nat}, (flowOut n l fl k).length = n
  | 0 => by simp [flowOut]
  | k + 1 => by rw [flowOut, subAt_len, addAt_len, flowOut_len]
theorem flowOut_bd {p : Int} {l : List Airway} {fl : List Int} {m : Nat} (hp : 1 ≤ p) (h : ∀ k, k < m → AwOk p (gx l k)) (hf : ∀ k, k < m → -9999999 ≤ gx fl k ∧ gx fl k ≤ 9999999) : ∀ k, k ≤ m → ∀ j, j < p.toNat → -19999998 * (k : Int) ≤ gx (flowOut p.toNat l fl k) j ∧ gx (flowOut p.toNat l fl k) j ≤ 19999998 * k
  | 0, _, j, hj => by simp [flowOut, gx_rep hj]
  | k + 1, hk, j, hj => by
    have h1 := flowOut_bd hp h hf k (by omega)
    obtain ⟨a1, a2, a3, a4, a5, a6, a7⟩ := h k (by omega)
    have h2 := hf k (by omega)
    have h3 := h1 j hj
    have h4 := h1 (gx l k).f.toNat (by omega)
    have h5 := h1 (gx l k).t.toNat (by omega)
    rw [flowOut, gx_subAt (by rw [addAt_len, flowOut_len]; omega), gx_addAt (by rw [flowOut_len]; omega), gx_addAt (by rw [flowOut_len]; omega)]
    split
    · split <;> omega
    · split <;> omega
theorem flowMid_bd {p : Int} {l : List Airway} {fl : List Int} {m : Nat} (hp : 1 ≤ p) (h : ∀ k, k < m → AwOk p (gx l k)) (hf : ∀ k, k < m → -9999999 ≤ gx fl k ∧ gx fl k ≤ 9999999) (k : Nat) (hk : k < m) (j : Nat) (hj : j < p.toNat) :
    -19999998 * (k : Int) - 9999999 ≤ gx ((flowOut p.toNat l fl k).set (gx l k).f.toNat (gx (flowOut p.toNat l fl k) (gx l k).f.toNat + gx fl k)) j ∧
    gx ((flowOut p.toNat l fl k).set (gx l k).f.toNat (gx (flowOut p.toNat l fl k) (gx l k).f.toNat + gx fl k)) j ≤ 19999998 * (k : Int) + 9999999 := by
  obtain ⟨a1, a2, a3, a4, a5, a6, a7⟩ := h k (by omega)
  have h2 := hf k (by omega)
  have h3 := flowOut_bd hp h hf k (by omega) j hj
  have h4 := flowOut_bd hp h hf k (by omega) (gx l k).f.toNat (by omega)
  rw [gx_set (by rw [flowOut_len]; omega)]
  split <;> omega
def want (i o amt : Int) (v : Nat) : Int := if i ≠ o ∧ (v : Int) = i then amt else if i ≠ o ∧ (v : Int) = o then -amt else 0
structure FlowOkP (p : Int) (l : List Airway) (i o amt : Int) (fl : List Int) : Prop where
  ok : MineOk p l
  i0 : 0 ≤ i
  i1 : i < p
  o0 : 0 ≤ o
  o1 : o < p
  fit : FlowFits l.length fl
  all : ∀ v, v < p.toNat → gx (flowOut p.toNat l fl l.length) v = want i o amt v
theorem neg_wrap {a : Int} (h : -9223372036854775808 ≤ a ∧ a ≤ 9223372036854775807) : IntKind.i64.wrap (0 - a) = -a ∨ (a = -9223372036854775808 ∧ IntKind.i64.wrap (0 - a) = -9223372036854775808) := by
  rw [IntKind.wrap_i64]; omega
/-- What the reference tests: the amount is taken away and added. -/
theorem flow_left {L : List Int} {p i o amt : Int} (hL : L.length = p.toNat) (hb : ∀ v, v < p.toNat → -139999986 ≤ gx L v ∧ gx L v ≤ 139999986) (hi : 0 ≤ i ∧ i < p) (ho : 0 ≤ o ∧ o < p) (ha : -9223372036854775808 ≤ amt ∧ amt ≤ 9223372036854775807) {M : List Int} {x y : Int}
    (hx : x = IntKind.i64.wrap (gx L i.toNat - amt)) (hy : y = IntKind.i64.wrap (gx (L.set i.toNat x) o.toNat + amt)) (hM : M = (L.set i.toNat x).set o.toNat y) {v : Nat} (hv : v < p.toNat) : gx M v = 0 ↔ gx L v = want i o amt v := by
  subst hM
  have b1 := hb i.toNat (by omega)
  have b2 := hb o.toNat (by omega)
  have b3 := hb v hv
  rw [gx_set (by rw [List.length_set]; omega), gx_set (by omega)]
  rw [gx_set (by omega)] at hy
  rw [IntKind.wrap_i64] at hx hy
  unfold want
  by_cases e : i = o
  · subst e
    rw [if_pos rfl] at hy
    by_cases e2 : i.toNat = v
    · subst e2; rw [if_pos rfl, if_neg (by omega), if_neg (by omega)]; omega
    · rw [if_neg e2, if_neg e2, if_neg (by omega), if_neg (by omega)]
  · rw [if_neg (by omega)] at hy
    by_cases e2 : o.toNat = v
    · rw [if_pos e2, if_neg (by omega), if_pos (by omega)]; subst e2; omega
    · rw [if_neg e2]
      by_cases e3 : i.toNat = v
      · rw [if_pos e3, if_pos (by omega)]; subst e3; omega
      · rw [if_neg e3, if_neg (by omega), if_neg (by omega)]

def flowM (L : List Int) (i o amt : Int) : List Int := (L.set i.toNat (IntKind.i64.wrap (gx L i.toNat - amt))).set o.toNat (IntKind.i64.wrap (gx (L.set i.toNat (IntKind.i64.wrap (gx L i.toNat - amt))) o.toNat + amt))
theorem flowM_len {L : List Int} {i o amt : Int} : (flowM L i o amt).length = L.length := by simp [flowM]
theorem flowM_iff {p i o amt : Int} {l : List Airway} {fl : List Int} (hp : 1 ≤ p) (hl : l.length ≤ 7) (h : ∀ k, k < l.length → AwOk p (gx l k)) (hf : ∀ k, k < l.length → -9999999 ≤ gx fl k ∧ gx fl k ≤ 9999999) (hi : 0 ≤ i ∧ i < p) (ho : 0 ≤ o ∧ o < p)
    (ha : -9223372036854775808 ≤ amt ∧ amt ≤ 9223372036854775807) (v : Nat) (hv : v < p.toNat) : gx (flowM (flowOut p.toNat l fl l.length) i o amt) v = 0 ↔ gx (flowOut p.toNat l fl l.length) v = want i o amt v :=
  flow_left flowOut_len (fun v hv => by have := flowOut_bd hp h hf l.length (by omega) v hv; omega) hi ho ha rfl rfl rfl hv

section
variable {P : Program} {N : Nat} {ro : List Chunk} {o : Oper} {sl : Slots} {ch : List Chunk}
/-- A number is stored into a slice of numbers. -/
theorem opk_store_i {R : KPred} {t : TypeId} {x y : Operand} {h : Value} {i : Nat} {L : List Int} {v : Int} {ch' : List Chunk}
    (ho : o.op = .store t x y) (hx : kev N sl x = some (adr h 1 i 0)) (hy : kev N sl y = some (.int .i64 v)) (hsz : ∀ w, (sizeOf t).run P w = .ok 1 w)
    (hu : Upd ch ⟨h, 1, L.map encI⟩ ⟨h, 1, (L.set i v).map encI⟩ ch') (hi : i < L.length) (hR : R (putS o.dst undef sl) ch') : OpK P N ro o sl ch R :=
  opk_store (e := encI (gx L i)) ho hx hy hsz rfl (by have e : (L.map encI).set i ((encI (gx L i)).set 0 (.int .i64 v)) = (L.set i v).map encI := map_set' rfl
                                                      rw [e]; exact hu) (gx_map hi) (by decide) hR
end
end Go.Proofs.Ytfgialdcilldiaa
