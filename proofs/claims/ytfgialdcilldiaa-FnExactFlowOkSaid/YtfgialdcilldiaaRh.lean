/- The row of FnExactFlowOk follows from the walk's contract; its conditions are the row's own. -/
import Derived.Test.YtfgialdcilldiaaWk
import Derived.Test.YtfgialdcilldiaaKr
namespace Go.Proofs.Ytfgialdcilldiaa.rowFnExactFlowOk
open Go Go.ChangeShapes Go.WideShapes Go.ChangeAt Go.RowKit
open Go.ChangeMaps (open_string shut_string)
set_option linter.unusedVariables false

theorem own : ownKnob Try.prog.godebug = none := by kernel_rfl
theorem laidOut : laidOutB Try.prog = true := by kernel_rfl

set_option maxRecDepth 100000 in
theorem lifted (os : Os) (started : os.Started) (H : Type) (enc : TypeId × Value → H) :
    ReturnsInHanded {} Try.checked os 9 .any (Rows.fnExactFlowOkSpec.pre6 enc Try.prog Try.f9 Rows.fnExactFlowOkRow.domain false) (Rows.fnExactFlowOkSpec.post enc Try.prog Try.f9 false true false false) := by
  refine returnsInHanded_of_change (C := Try.checked) own started (by kernel_rfl) Try.func9
    (ChangeSpec.witness6 (enc := enc) (C := Try.checked) false ⟨#[], #[.agg #[.int .i64 0, .slice none 0 0], .int .i64 0, .int .i64 0, .int .i64 0, .slice none 0 0], []⟩ 8 (by kernel_rfl) (by kernel_rfl) (by kernel_rfl) (by kernel_rfl)) ?_
  intro W base args ds gs before hval0 hW hcnd _
  have hval : ∀ (j : Nat) t v, Try.f9.params[j]? = some t → args[j]? = some v → Value.okWide Try.prog W .any base t v := hval0
  have hW' := hW
  obtain ⟨p, q, hA0, hV, rfl, hfz, hnd⟩ := hW
  have hA : DataW.TrodAll enc Try.prog W 0 (fun _ => true) true Try.f9.params.toList args.toList ds p := hA0
  rw [Try.params9] at hA hval
  obtain ⟨v0, vs0, d0, ds0, p0, q0, hargs, rfl, rfl, h0, s0⟩ := trodAll_cons hA
  obtain ⟨v1, vs1, d1, ds1, p1, q1, rfl, rfl, rfl, h1, s1⟩ := trodAll_cons s0
  obtain ⟨v2, vs2, d2, ds2, p2, q2, rfl, rfl, rfl, h2, s2⟩ := trodAll_cons s1
  obtain ⟨v3, vs3, d3, ds3, p3, q3, rfl, rfl, rfl, h3, s3⟩ := trodAll_cons s2
  obtain ⟨v4, vs4, d4, ds4, p4, q4, rfl, rfl, rfl, h4, s4⟩ := trodAll_cons s3
  obtain ⟨rfl, rfl, rfl⟩ := trodAll_nil s4
  obtain rfl : args = #[v0, v1, v2, v3, v4] := by cases args; simp_all
  obtain ⟨rfl, rfl⟩ := trodVars_none hV
  have k0 := h0
  have lt0 : ∀ x ∈ p0, x.block < W.heap.size := by obtain ⟨m, hm⟩ := k0; exact DataW.trod_lt m _ _ _ hm
  obtain ⟨cs0, rfl, hs0⟩ := okWide_struct Try.underlying30 (hval 0 30 v0 rfl rfl)
  obtain ⟨m0, f0⟩ := h0
  simp only [Value.cells] at f0
  obtain ⟨q0_0, q0_1, rfl, ⟨m0_0, y0_0, g0_0⟩, ⟨m0_1, y0_1, g0_1⟩⟩ := struct2 Try.underlying30 f0 (by kernel_rfl) (by kernel_rfl)
  obtain ⟨x0_0, e0_0, _, w0_0⟩ := DataW.trod_int Try.underlying3 g0_0
  simp only [List.cons.injEq, and_true] at e0_0; subst e0_0
  have r0_0 := i64_range w0_0
  obtain ⟨a0_1, n0_1, c0_1, e0_1⟩ := trod_slice_form Try.underlying28 g0_1; subst e0_1
  obtain ⟨hm0_1, l0_1, hl0_1, hc0_1⟩ := (slice_chunk encAirway Try.underlying28 (by kernel_rfl) (by decide) (ints_el encAirway decAirway Try.underlying103 (by kernel_rfl) (by kernel_rfl) (by kernel_rfl) decAirway_ok) g0_1)
  unfold maxLen at hm0_1
  obtain ⟨x1, rfl, rfl, rfl, w1⟩ := open_int Try.underlying3 (hval 1 3 v1 rfl rfl) h1
  have r1 := i64_range w1
  obtain ⟨x2, rfl, rfl, rfl, w2⟩ := open_int Try.underlying3 (hval 2 3 v2 rfl rfl) h2
  have r2 := i64_range w2
  obtain ⟨x3, rfl, rfl, rfl, w3⟩ := open_int Try.underlying3 (hval 3 3 v3 rfl rfl) h3
  have r3 := i64_range w3
  have k4 := h4
  have lt4 : ∀ x ∈ p4, x.block < W.heap.size := by obtain ⟨m, hm⟩ := k4; exact DataW.trod_lt m _ _ _ hm
  obtain ⟨a4, n4, c4, rfl⟩ := okWide_slice Try.underlying39 (hval 4 39 v4 rfl rfl)
  obtain ⟨m4, f4⟩ := h4
  simp only [Value.cells] at f4
  obtain ⟨hm4, l4, hl4, hc4⟩ := (slice_chunk (fun (v : Int) => [.int .i64 v]) Try.underlying39 (by kernel_rfl) (by decide) (int_el Try.underlying3) f4)
  unfold maxLen at hm4
  clear hA0 hval0
  have hcall := c_laws_FnExactFlowOk x0_0 a0_1 n0_1 c0_1 l0_1 x1 x2 x3 a4 n4 c4 l4 ⟨by omega, by omega⟩ r3 r0_0 W (St.reads (fun c hc => by simp only [List.mem_cons, List.not_mem_nil, or_false] at hc; rcases hc with rfl | rfl <;> assumption))
  refine hcall.mono fun e W' hh => ?_
  obtain ⟨r, ch, rfl, ⟨rfl, _⟩, _, hext⟩ := hh
  have bel := below_of_ext hext
  exact ⟨_, rfl, _, _, _, [], _, [], hW', trodAll_mk1 (shut_bool Try.underlying4 _), (trodAll_cons_mk (Below.trod laidOut (by kernel_rfl) (of_decide_eq_true (by kernel_rfl)) k0 bel lt0) (trodAll_cons_mk (shut_int Try.underlying3 w1) (trodAll_cons_mk (shut_int Try.underlying3 w2) (trodAll_cons_mk (shut_int Try.underlying3 w3) (trodAll_cons_mk (Below.trod laidOut (by kernel_rfl) (of_decide_eq_true (by kernel_rfl)) k4 bel lt4) trodAll_mk0))))), rfl, bel.frame _, fun h => by cases h⟩

theorem over : Rows.fnExactFlowOkRow.holds Try.pinned (OpenSpec.ofChange Rows.fnExactFlowOkSpec) :=
  OpenClaim.holds_of_wide 9 Try.f9 rfl rfl rfl rfl rfl rfl rfl ⟨rfl, rfl, rfl, rfl, rfl⟩ rfl rfl rfl rfl rfl (by kernel_rfl) Try.func9 (by kernel_rfl)
    (of_decide_eq_true (by kernel_rfl)) (by unfold Func.isWrapper; first | (rw [if_pos (by decide +kernel)]; kernel_rfl) | (rw [if_neg (by decide +kernel)]; exact ⟨rfl, rfl⟩))
    (fun os started H enc _ => lifted os started H enc)
end Go.Proofs.Ytfgialdcilldiaa.rowFnExactFlowOk

namespace Go.Proofs.Ytfgialdcilldiaa
/-- The statement. -/
theorem fnExactFlowOk_holds : Rows.FnExactFlowOkSaid := rowFnExactFlowOk.over
#print axioms fnExactFlowOk_holds
end Go.Proofs.Ytfgialdcilldiaa
