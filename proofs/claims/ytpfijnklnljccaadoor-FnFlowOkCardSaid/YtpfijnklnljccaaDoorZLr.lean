/- What the laws' reader draws, and that the program is alive: plain programs; conditions on sizes alone. -/
import Derived.Test.YtpfijnklnljccaaDoorZLa
import Derived.Test.YtpfijnklnljccaaDoorZQ
namespace Go.Proofs.YtpfijnklnljccaaDoor
open Go
set_option linter.unusedVariables false
set_option linter.unusedSimpArgs false

theorem tmod_in {a n : Int} (ha : 0 ≤ a) (hn : 0 < n) : 0 ≤ Int.tmod a n ∧ Int.tmod a n < n :=
  ⟨Int.tmod_nonneg n ha, Int.tmod_lt_of_pos a hn⟩
theorem xor_in {x y : Int} (hx : 0 ≤ x ∧ x < 9223372036854775808) (hy : 0 ≤ y ∧ y < 9223372036854775808) :
    0 ≤ IntKind.i64.wrap (BitVec.ofInt IntKind.i64.bits x ^^^ BitVec.ofInt IntKind.i64.bits y).toNat ∧ IntKind.i64.wrap (BitVec.ofInt IntKind.i64.bits x ^^^ BitVec.ofInt IntKind.i64.bits y).toNat < 9223372036854775808 := by
  obtain ⟨a, rfl⟩ := Int.eq_ofNat_of_zero_le hx.1
  obtain ⟨b, rfl⟩ := Int.eq_ofNat_of_zero_le hy.1
  have ha : a < 2 ^ 63 := by omega
  have hb : b < 2 ^ 63 := by omega
  have h := Nat.xor_lt_two_pow ha hb
  have e : (BitVec.ofInt IntKind.i64.bits (a : Int) ^^^ BitVec.ofInt IntKind.i64.bits (b : Int)).toNat = a ^^^ b := by
    have hb1 : IntKind.i64.bits = 64 := by decide
    rw [BitVec.toNat_xor, BitVec.toNat_ofInt, BitVec.toNat_ofInt, hb1]
    have e1 : ((a : Int) % ((2 ^ 64 : Nat) : Int)).toNat = a := by omega
    have e2 : ((b : Int) % ((2 ^ 64 : Nat) : Int)).toNat = b := by omega
    rw [e1, e2]
  rw [e]
  have := w64_in (x := ((a ^^^ b : Nat) : Int)) (by omega) (by omega)
  unfold w64 at this
  rw [this]; omega
/-- A draw: some number below n; the reader goes on by one. -/
theorem l_pick {b : List UInt8} {p n : Int} (hb : b.length ≤ 2000) (hp : 0 ≤ p) (hp2 : p ≤ 1099511627776) (hn : n ≤ 4611686018427387904) :
    ∃ v, p_spec_l20Rd_pick ⟨b, p⟩ n = some (v, p + 1) ∧ 0 ≤ v ∧ (1 ≤ n → v < n) := by
  unfold p_spec_l20Rd_pick
  simp only
  rw [w64_in (x := p + 1) (by omega) (by omega), w64_in (x := p + 1 - 1) (by omega) (by omega)]
  have e1 : p + 1 - 1 = p := by omega
  rw [e1]
  by_cases h1 : n < 1
  · rw [decide_eq_true h1]
    exact ⟨0, rfl, by omega, fun h => by omega⟩
  rw [decide_eq_false h1, cond_false]
  simp only [Option.bind_some]
  by_cases h2 : b.length = 0
  · rw [show (((b.length : Nat) : Int) == 0) = true by simpa using h2]
    exact ⟨0, rfl, by omega, fun h => by omega⟩
  rw [show (((b.length : Nat) : Int) == 0) = false by simpa using h2, cond_false]
  have by8 : ∀ k, 0 ≤ ((gx b k).toNat : Int) ∧ ((gx b k).toNat : Int) ≤ 255 := fun k => by
    have := (gx b k).toNat_lt; omega
  by_cases h3 : p < ((b.length : Nat) : Int)
  · rw [decide_eq_true h3, cond_true, idx_of (by omega), need_of (by omega)]
    have := by8 p.toNat
    rw [w64_in (by omega) (by omega)]
    exact ⟨_, rfl, (tmod_in (by omega) (by omega)).1, fun _ => (tmod_in (by omega) (by omega)).2⟩
  · rw [decide_eq_false h3, cond_false, need_of (by omega)]
    have t1 := tmod_in (a := p) (n := (b.length : Int)) (by omega) (by omega)
    rw [idx_of t1, need_of (by omega), w64_in (x := p * 7) (by omega) (by omega), w64_in (x := p * 7 + 3) (by omega) (by omega)]
    have t2 := tmod_in (a := p * 7 + 3) (n := (b.length : Int)) (by omega) (by omega)
    rw [idx_of t2, need_of (by omega), need_of (by omega)]
    have g1 := by8 (Int.tmod p (b.length : Int)).toNat
    have g2 := by8 (Int.tmod (p * 7 + 3) (b.length : Int)).toNat
    generalize ((gx b (Int.tmod p (b.length : Int)).toNat).toNat : Int) = x at g1
    generalize ((gx b (Int.tmod (p * 7 + 3) (b.length : Int)).toNat).toNat : Int) = y at g2
    have q0 : 0 ≤ Int.tdiv p (b.length : Int) := Int.tdiv_nonneg hp (by omega)
    have q1 : Int.tdiv p (b.length : Int) ≤ p := Int.tdiv_le_self _ hp
    generalize Int.tdiv p (b.length : Int) = q at q0 q1
    rw [w64_in (x := x) (by omega) (by omega), w64_in (x := y) (by omega) (by omega), w64_in (x := x * 131) (by omega) (by omega), w64_in (x := y * 1117) (by omega) (by omega), w64_in (x := x * 131 + y * 1117) (by omega) (by omega),
      w64_in (x := p * 29) (by omega) (by omega), w64_in (x := x * 131 + y * 1117 + p * 29) (by omega) (by omega), w64_in (x := q) (by omega) (by omega), w64_in (x := q * 53) (by omega) (by omega), w64_in (x := x * 131 + y * 1117 + p * 29 + q * 53) (by omega) (by omega)]
    have s0 : 0 ≤ x * 131 + y * 1117 + p * 29 + q * 53 := by omega
    have s1 : x * 131 + y * 1117 + p * 29 + q * 53 < 9223372036854775808 := by omega
    generalize x * 131 + y * 1117 + p * 29 + q * 53 = s at s0 s1
    have d0 : 0 ≤ Int.tdiv s 64 := Int.tdiv_nonneg s0 (by omega)
    have d1 : Int.tdiv s 64 ≤ s := Int.tdiv_le_self _ s0
    rw [w64_in (x := Int.tdiv s 64) (by omega) (by omega)]
    have hx := xor_in (x := s) (y := Int.tdiv s 64) (by omega) (by omega)
    exact ⟨_, rfl, (tmod_in hx.1 (by omega)).1, fun _ => (tmod_in hx.1 (by omega)).2⟩
theorem l_open {code : List UInt8} : p_spec_l20Open code = some ⟨code.take 2000, 0⟩ := by
  unfold p_spec_l20Open
  by_cases h : 2000 < ((code.length : Nat) : Int)
  · rw [decide_eq_true h, cond_true]
    have := cut_at (n := code.length) (a := 0) (b := 2000) (k := fun a b => (some ⟨(code.drop a).take (b - a), 0⟩ : O Rd)) (by omega) (by omega)
    simpa using this
  · rw [decide_eq_false h, cond_false, List.take_of_length_le (by omega)]
theorem open_len {code : List UInt8} : (code.take 2000).length ≤ 2000 := by simp; omega
theorem l_alive : p_laws_alive = some true := by
  have i0 : Lib.itoa 0 = [48] := by decide +kernel
  have i1 : Lib.itoa 1 = [49] := by decide +kernel
  have i2 : Lib.itoa 2 = [50] := by decide +kernel
  have i3 : Lib.itoa 3 = [51] := by decide +kernel
  have i4 : Lib.itoa (-4) = [45, 52] := by decide +kernel
  have h1 : p_impl_LegText ⟨0, 1, 3, (-4), 2⟩ = some ⟨#[48, 62, 49, 58, 51, 44, 45, 52, 44, 50]⟩ := by
    have v : p_impl_LegValid 6 ⟨0, 1, 3, (-4), 2⟩ = some true := by rfl
    unfold p_impl_LegText
    simp only [v, Option.bind_some, p_strconv_Itoa, p_impl_legWay, p_impl_wayText, i0, i1, i2, i3, i4]
    rfl
  have h2 : p_impl_LegText ⟨0, 0, 0, 0, 0⟩ = some ⟨#[]⟩ := by
    have v : p_impl_LegValid 6 ⟨0, 0, 0, 0, 0⟩ = some false := by rfl
    unfold p_impl_LegText
    simp only [v, Option.bind_some]
    rfl
  unfold p_laws_alive
  rw [h1, Option.bind_some, h2]
  simp
end Go.Proofs.YtpfijnklnljccaaDoor
