/- The row of FnExactTreesFix follows from the walk's contract; its conditions are the row's own. -/
import Derived.Test.YtkhjbfngafebeaaZV2TreesFix
import Derived.Test.YtkhjbfngafebeaaZG1
import Derived.Test.YtkhjbfngafebeaaZKr
import Derived.Test.YtkhjbfngafebeaaRows
namespace Go.Proofs.Ytkhjbfngafebeaa.rowFnExactTreesFix
open Go Go.ChangeShapes Go.WideShapes Go.ChangeAt Go.RowKit
open Go.ChangeMaps (open_string shut_string)
set_option linter.unusedVariables false

theorem own : ownKnob Try.prog.godebug = none := by kernel_rfl
theorem laidOut : laidOutB Try.prog = true := by kernel_rfl

set_option maxRecDepth 100000 in
theorem lifted (os : Os) (started : os.Started) (H : Type) (enc : TypeId × Value → H) :
    ReturnsInHanded {} Try.checked os 5 .any (Rows.fnExactTreesFixSpec.pre6 enc Try.prog Try.f5 Rows.fnExactTreesFixRow.domain false) (Rows.fnExactTreesFixSpec.post enc Try.prog Try.f5 false true false false) := by
  refine returnsInHanded_of_change (C := Try.checked) own started (by kernel_rfl) Try.func5
    (ChangeSpec.witness6 (enc := enc) (C := Try.checked) false ⟨#[], #[.agg #[.int .i64 0, .slice none 0 0]], []⟩ 8 (by kernel_rfl) (by kernel_rfl) (by kernel_rfl) (by kernel_rfl)) ?_
  intro W base args ds gs before hval0 hW hcnd _
  have hval : ∀ (j : Nat) t v, Try.f5.params[j]? = some t → args[j]? = some v → Value.okWide Try.prog W .any base t v := hval0
  have hW' := hW
  obtain ⟨p, q, hA0, hV, rfl, hfz, hnd⟩ := hW
  have hA : DataW.TrodAll enc Try.prog W 0 (fun _ => true) true Try.f5.params.toList args.toList ds p := hA0
  rw [Try.params5] at hA hval
  obtain ⟨v0, vs0, d0, ds0, p0, q0, hargs, rfl, rfl, h0, s0⟩ := trodAll_cons hA
  obtain ⟨rfl, rfl, rfl⟩ := trodAll_nil s0
  obtain rfl : args = #[v0] := by cases args; simp_all
  obtain ⟨rfl, rfl⟩ := trodVars_none hV
  have k0 := h0
  have lt0 : ∀ x ∈ p0, x.block < W.heap.size := by obtain ⟨m, hm⟩ := k0; exact DataW.trod_lt m _ _ _ hm
  obtain ⟨cs0, rfl, hs0⟩ := okWide_struct Try.underlying24 (hval 0 24 v0 rfl rfl)
  obtain ⟨m0, f0⟩ := h0
  simp only [Value.cells] at f0
  obtain ⟨q0_0, q0_1, rfl, ⟨m0_0, y0_0, g0_0⟩, ⟨m0_1, y0_1, g0_1⟩⟩ := struct2 Try.underlying24 f0 (by kernel_rfl) (by kernel_rfl)
  obtain ⟨x0_0, e0_0, _, w0_0⟩ := DataW.trod_int Try.underlying3 g0_0
  simp only [List.cons.injEq, and_true] at e0_0; subst e0_0
  have r0_0 := i64_range w0_0
  obtain ⟨a0_1, n0_1, c0_1, e0_1⟩ := trod_slice_form Try.underlying22 g0_1; subst e0_1
  obtain ⟨hm0_1, l0_1, hl0_1, hc0_1⟩ := (slice_chunk encLeg Try.underlying22 (by kernel_rfl) (by decide) (ints_el encLeg decLeg Try.underlying74 (by kernel_rfl) (by kernel_rfl) (by kernel_rfl) decLeg_ok) g0_1)
  unfold maxLen at hm0_1
  clear hA0 hval0
  have hcall := w_laws_FnExactTreesFix a0_1 n0_1 c0_1 (aS0 := ⟨x0_0, l0_1⟩) (l_FnExactTreesFix (by show l0_1.length ≤ _; omega)) W (St.reads (fun c hc => by simp only [List.mem_singleton] at hc; subst hc; assumption))
  refine hcall.mono fun e W' hh => ?_
  obtain ⟨r, ch, rfl, ⟨rfl, _⟩, _, hext⟩ := hh
  have bel := below_of_ext hext
  exact ⟨_, rfl, _, _, _, [], _, [], hW', trodAll_mk1 (shut_bool Try.underlying4 _), (trodAll_cons_mk (Below.trod laidOut (by kernel_rfl) (of_decide_eq_true (by kernel_rfl)) k0 bel lt0) trodAll_mk0), rfl, bel.frame _, fun h => by cases h⟩

theorem over : Rows.fnExactTreesFixRow.holds Try.pinned (OpenSpec.ofChange Rows.fnExactTreesFixSpec) :=
  OpenClaim.holds_of_wide 5 Try.f5 rfl rfl rfl rfl rfl rfl rfl ⟨rfl, rfl, rfl, rfl, rfl⟩ rfl rfl rfl rfl rfl (by kernel_rfl) Try.func5 (by kernel_rfl)
    (of_decide_eq_true (by kernel_rfl)) (by unfold Func.isWrapper; first | (rw [if_pos (by decide +kernel)]; kernel_rfl) | (rw [if_neg (by decide +kernel)]; exact ⟨rfl, rfl⟩))
    (fun os started H enc _ => lifted os started H enc)
end Go.Proofs.Ytkhjbfngafebeaa.rowFnExactTreesFix

namespace Go.Proofs.Ytkhjbfngafebeaa
/-- The statement. -/
theorem fnExactTreesFix_holds : Rows.FnExactTreesFixSaid := rowFnExactTreesFix.over
#print axioms fnExactTreesFix_holds
end Go.Proofs.Ytkhjbfngafebeaa
