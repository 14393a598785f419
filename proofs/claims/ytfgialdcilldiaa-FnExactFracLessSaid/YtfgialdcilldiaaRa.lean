/- The row of FnExactFracLess follows from the walk's contract; its conditions are the row's own. -/
import Derived.Test.YtfgialdcilldiaaWa
import Derived.Test.YtfgialdcilldiaaKr
namespace Go.Proofs.Ytfgialdcilldiaa.rowFnExactFracLess
open Go Go.ChangeShapes Go.WideShapes Go.ChangeAt Go.RowKit
open Go.ChangeMaps (open_string shut_string)
set_option linter.unusedVariables false

theorem own : ownKnob Try.prog.godebug = none := by kernel_rfl
theorem laidOut : laidOutB Try.prog = true := by kernel_rfl

set_option maxRecDepth 100000 in
theorem lifted (os : Os) (started : os.Started) (H : Type) (enc : TypeId × Value → H) :
    ReturnsInHanded {} Try.checked os 3 .any (Rows.fnExactFracLessSpec.pre6 enc Try.prog Try.f3 Rows.fnExactFracLessRow.domain false) (Rows.fnExactFracLessSpec.post enc Try.prog Try.f3 false true false false) := by
  refine returnsInHanded_of_change (C := Try.checked) own started (by kernel_rfl) Try.func3
    (ChangeSpec.witness6 (enc := enc) (C := Try.checked) false ⟨#[], #[.agg #[.int .i64 0, .int .i64 0], .agg #[.int .i64 0, .int .i64 0]], []⟩ 8 (by kernel_rfl) (by kernel_rfl) (by kernel_rfl) (by kernel_rfl)) ?_
  intro W base args ds gs before hval0 hW hcnd _
  have hval : ∀ (j : Nat) t v, Try.f3.params[j]? = some t → args[j]? = some v → Value.okWide Try.prog W .any base t v := hval0
  have hW' := hW
  obtain ⟨p, q, hA0, hV, rfl, hfz, hnd⟩ := hW
  have hA : DataW.TrodAll enc Try.prog W 0 (fun _ => true) true Try.f3.params.toList args.toList ds p := hA0
  rw [Try.params3] at hA hval
  obtain ⟨v0, vs0, d0, ds0, p0, q0, hargs, rfl, rfl, h0, s0⟩ := trodAll_cons hA
  obtain ⟨v1, vs1, d1, ds1, p1, q1, rfl, rfl, rfl, h1, s1⟩ := trodAll_cons s0
  obtain ⟨rfl, rfl, rfl⟩ := trodAll_nil s1
  obtain rfl : args = #[v0, v1] := by cases args; simp_all
  obtain ⟨rfl, rfl⟩ := trodVars_none hV
  have k0 := h0
  have lt0 : ∀ x ∈ p0, x.block < W.heap.size := by obtain ⟨m, hm⟩ := k0; exact DataW.trod_lt m _ _ _ hm
  obtain ⟨cs0, rfl, hs0⟩ := okWide_struct Try.underlying23 (hval 0 23 v0 rfl rfl)
  obtain ⟨m0, f0⟩ := h0
  simp only [Value.cells] at f0
  obtain ⟨q0_0, q0_1, rfl, ⟨m0_0, y0_0, g0_0⟩, ⟨m0_1, y0_1, g0_1⟩⟩ := struct2 Try.underlying23 f0 (by kernel_rfl) (by kernel_rfl)
  obtain ⟨x0_0, e0_0, _, w0_0⟩ := DataW.trod_int Try.underlying3 g0_0
  simp only [List.cons.injEq, and_true] at e0_0; subst e0_0
  have r0_0 := i64_range w0_0
  obtain ⟨x0_1, e0_1, _, w0_1⟩ := DataW.trod_int Try.underlying3 g0_1
  simp only [List.cons.injEq, and_true] at e0_1; subst e0_1
  have r0_1 := i64_range w0_1
  have k1 := h1
  have lt1 : ∀ x ∈ p1, x.block < W.heap.size := by obtain ⟨m, hm⟩ := k1; exact DataW.trod_lt m _ _ _ hm
  obtain ⟨cs1, rfl, hs1⟩ := okWide_struct Try.underlying23 (hval 1 23 v1 rfl rfl)
  obtain ⟨m1, f1⟩ := h1
  simp only [Value.cells] at f1
  obtain ⟨q1_0, q1_1, rfl, ⟨m1_0, y1_0, g1_0⟩, ⟨m1_1, y1_1, g1_1⟩⟩ := struct2 Try.underlying23 f1 (by kernel_rfl) (by kernel_rfl)
  obtain ⟨x1_0, e1_0, _, w1_0⟩ := DataW.trod_int Try.underlying3 g1_0
  simp only [List.cons.injEq, and_true] at e1_0; subst e1_0
  have r1_0 := i64_range w1_0
  obtain ⟨x1_1, e1_1, _, w1_1⟩ := DataW.trod_int Try.underlying3 g1_1
  simp only [List.cons.injEq, and_true] at e1_1; subst e1_1
  have r1_1 := i64_range w1_1
  clear hA0 hval0
  have hcall := c_laws_FnExactFracLess ⟨x0_0, x0_1⟩ ⟨x1_0, x1_1⟩ W (St.reads (fun c hc => by cases hc))
  refine hcall.mono fun e W' hh => ?_
  obtain ⟨r, ch, rfl, ⟨rfl, _⟩, _, hext⟩ := hh
  have bel := below_of_ext hext
  exact ⟨_, rfl, _, _, _, [], _, [], hW', trodAll_mk1 (shut_bool Try.underlying4 _), (trodAll_cons_mk (Below.trod laidOut (by kernel_rfl) (of_decide_eq_true (by kernel_rfl)) k0 bel lt0) (trodAll_cons_mk (Below.trod laidOut (by kernel_rfl) (of_decide_eq_true (by kernel_rfl)) k1 bel lt1) trodAll_mk0)), rfl, bel.frame _, fun h => by cases h⟩

theorem over : Rows.fnExactFracLessRow.holds Try.pinned (OpenSpec.ofChange Rows.fnExactFracLessSpec) :=
  OpenClaim.holds_of_wide 3 Try.f3 rfl rfl rfl rfl rfl rfl rfl ⟨rfl, rfl, rfl, rfl, rfl⟩ rfl rfl rfl rfl rfl (by kernel_rfl) Try.func3 (by kernel_rfl)
    (of_decide_eq_true (by kernel_rfl)) (by unfold Func.isWrapper; first | (rw [if_pos (by decide +kernel)]; kernel_rfl) | (rw [if_neg (by decide +kernel)]; exact ⟨rfl, rfl⟩))
    (fun os started H enc _ => lifted os started H enc)
end Go.Proofs.Ytfgialdcilldiaa.rowFnExactFracLess

namespace Go.Proofs.Ytfgialdcilldiaa
/-- The statement. -/
theorem fnExactFracLess_holds : Rows.FnExactFracLessSaid := rowFnExactFracLess.over
#print axioms fnExactFracLess_holds
end Go.Proofs.Ytfgialdcilldiaa
