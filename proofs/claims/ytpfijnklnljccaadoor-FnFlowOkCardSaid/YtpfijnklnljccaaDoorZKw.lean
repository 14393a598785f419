/- Strings, and numbers as text by the library's contract; its conditions are the number's range and the library's table. -/
import Derived.Test.YtpfijnklnljccaaDoorZDa
import Derived.Test.YtpfijnklnljccaaDoorZSh
import Derived.Lib.AppendIntMem
namespace Go.Proofs.YtpfijnklnljccaaDoor
open Go
set_option linter.unusedVariables false
set_option linter.unusedSimpArgs false

section
variable {P : Program} {N : Nat} {ro ch : List Chunk} {o : Oper} {sl : Slots}
theorem v_adds {t u : TypeId} {x y : Operand} {a b : ByteArray} (h0 : a.size + b.size ≤ 9223372036854775807) (ho : o.op = .binOp .add t x y u := by rfl) (hx : kev N sl x = some (.string a) := by rfl) (hy : kev N sl y = some (.string b) := by rfl) : OpV P N ro ch o sl (.string (a ++ b)) :=
  fun ac w hkn _ => by
    have h1 := hkn.ev hx
    have h2 := hkn.ev hy
    have h3 : ¬ IntKind.i64.max < ((a.size : Int) + (b.size : Int)) := by
      have : IntKind.i64.max = 9223372036854775807 := by decide
      omega
    unfold execOp
    simp [ho, h1, h2, eqGuard, binOp, Op.stringOp]
    omega
theorem v_eqs {t u : TypeId} {x y : Operand} {a b : ByteArray} (ho : o.op = .binOp .eql t x y u := by rfl) (hx : kev N sl x = some (.string a) := by rfl) (hy : kev N sl y = some (.string b) := by rfl) : OpV P N ro ch o sl (.bool (a.toList == b.toList)) :=
  fun ac w hkn _ => by
    have h1 := hkn.ev hx
    have h2 := hkn.ev hy
    unfold execOp
    simp [ho, h1, h2, eqGuard, binOp, Op.stringOp]
end

/-- The library's table of powers. -/
def tabC : Chunk := ⟨.iface 0 (.agg (Lib.pow10Tab.map fun z => Value.int .u64 z).toArray), 1, []⟩
theorem tab_ok {w : World} (h : Lib.TabIs Tryd.prog w "internal/strconv.uint64pow10" .u64 Lib.pow10Tab) : tabC.ok w false := by
  refine ⟨Nat.one_pos, fun e he => absurd he (List.not_mem_nil), ?_⟩
  show ([] : List (List Value)) = [] ∧ ∃ vals el fz, Value.agg (Lib.pow10Tab.map fun z => Value.int .u64 z).toArray = .agg vals ∧ w.heap[0]? = some (.cells vals el fz)
  refine ⟨rfl, ?_⟩
  unfold Lib.TabIs World.var? at h
  rw [show Tryd.prog.globalNamed "internal/strconv.uint64pow10" = some 0 by kernel_rfl] at h
  simp only [Option.bind_some] at h
  split at h
  · rename_i cs el fz hh
    cases h
    exact ⟨_, _, _, rfl, hh⟩
  · cases h
theorem tab_of {w : World} {rw : Bool} (h : tabC.ok w rw) : Lib.TabIs Tryd.prog w "internal/strconv.uint64pow10" .u64 Lib.pow10Tab := by
  obtain ⟨_, _, _, vals, el, fz, hv, hh⟩ := h
  cases hv
  unfold Lib.TabIs World.var?
  rw [show Tryd.prog.globalNamed "internal/strconv.uint64pow10" = some 0 by kernel_rfl]
  simp only [Option.bind_some]
  rw [hh]

noncomputable def p_strconv_Itoa (n0 : Int) : O ByteArray := need (-9223372036854775808 ≤ n0 ∧ n0 ≤ 9223372036854775807) <| some ⟨(Lib.itoa n0).toArray⟩
theorem ext_grow (w : World) (k : Nat) (os : Array Obj) : Ext w [] (Sort.grow (w.drewN k) os) [] where
  size := Lib.size_grow w k os
  keep b hb _ := Lib.heap_grow_old w k os b hb
  from_ c hc := by cases hc
  env := ⟨rfl, rfl, rfl⟩
theorem w_strconv_Itoa {n0 : Int} {r : ByteArray} (h : p_strconv_Itoa n0 = some r) : Triple Tryd.prog 91 [.int .i64 n0] [tabC] [] (fun v ch => v = .string r ∧ ch = []) := by
  obtain ⟨hr, h⟩ := e_need h
  cases h
  intro w hs
  have h0 := hs.rok tabC List.mem_cons_self
  refine (Tryd.strconv_Itoa n0 hr.1 hr.2 w (tab_of h0)).mono ?_
  rintro e w' ⟨rfl, k, os, rfl⟩
  refine ⟨_, [], rfl, ⟨rfl, rfl⟩, ⟨?_, ?_, List.Pairwise.nil, ?_⟩, ext_grow w k os⟩
  · intro c hc
    simp only [List.mem_singleton] at hc; subst hc
    exact h0.same (fun b hb => Lib.heap_grow_old w k os b (h0.lt b hb))
  · intro c hc; cases hc
  · intro c _ d hd; cases hd
end Go.Proofs.YtpfijnklnljccaaDoor
