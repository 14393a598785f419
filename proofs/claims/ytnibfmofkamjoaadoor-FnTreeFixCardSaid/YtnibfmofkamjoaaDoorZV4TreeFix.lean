/- What the plain programs return, the functions of the program return; no condition. -/
import Derived.Test.YtnibfmofkamjoaaDoorZQ
import Derived.Test.YtnibfmofkamjoaaDoorZFa
import Derived.Test.YtnibfmofkamjoaaDoorZVbg
import Derived.Test.YtnibfmofkamjoaaDoorZVbt
import Derived.Test.YtnibfmofkamjoaaDoorZVby
import Derived.Test.YtnibfmofkamjoaaDoorZVtf
import Derived.Test.YtnibfmofkamjoaaDoorZVbc
import Derived.Test.YtnibfmofkamjoaaDoorZKx
namespace Go.Proofs.YtnibfmofkamjoaaDoor
open Go
set_option linter.unusedVariables false
set_option linter.unusedSimpArgs false

set_option maxRecDepth 20000 in
theorem w_spec_DrawTreeFix (code0a : Option Addr) (code0n : Nat) (code0c : Nat) {code0 : List UInt8} {r : Survey × List Int} (h : p_spec_DrawTreeFix code0 = some r) :
    Triple Tryd.prog 15 [.slice code0a code0n code0c] [⟨.slice code0a code0n code0c, 1, code0.map encB⟩] [] (fun v ch => ∃ (w01a : Option Addr) (w01c : Nat) (w1a : Option Addr) (w1c : Nat), v = .tuple #[.agg #[.int .i64 r.1.st, .slice w01a r.1.legs.length w01c], .slice w1a r.2.length w1c] ∧ ch = [⟨.slice w01a r.1.legs.length w01c, 5, r.1.legs.map encLeg⟩, ⟨.slice w1a r.2.length w1c, 1, r.2.map encI⟩]) := by
  refine triple_start 33 Tryd.func15 Tryd.ntmps15 rfl rfl (fun w0 => ?_)
  refine k_len (c := code0c) (fun hl1 => ?_)
  subst hl1
  unfold p_spec_DrawTreeFix at h
  refine kwp_seq ?_
  refine kwp_region ?_
  refine kops_nilchunk 5 (by decide) ?_
  refine kk (n_alloc (e := [.int .i64 0, .slice none 0 0]) 2 Tryd.zeroValue25 (fun p2_2 => ?_))
  refine kops_nilchunk 1 (by decide) ?_
  refine kd (v_as) ?_
  refine kops_nil ?_
  refine kn_then ?_
  refine kwp_seq ?_
  refine kwp_region ?_
  refine kd (v_mv) ?_
  obtain ⟨v4, hv3, h⟩ := e_bind h
  refine kk (n_call Tryd.call68 (w_spec_l20Open code0a code0.length code0c hv3) ?_)
  rintro _ _ ⟨q5p, q50a, q50c, rfl, hvwq5, rfl⟩
  refine kd (v_as) ?_
  refine kops_nil ?_
  refine kn_then ?_
  refine kwp_seq ?_
  refine kwp_region ?_
  refine kd (v_mv) ?_
  obtain ⟨⟨v7, v8⟩, hv6, h⟩ := e_bind h
  refine kk (n_call Tryd.call69 (w_spec_l20Linked q5p q50a v4.b.length q50c hv6) ?_ (hv := (Views.cons (by repeat (first | exact mh | apply mt | apply mas | apply ms)) hvwq5 (Views.nil _))))
  rintro _ _ ⟨q91a, q91c, rfl, rfl⟩
  refine kops_nilchunk 5 (by decide) ?_
  refine kk (n_alloc (e := [.int .i64 0, .slice none 0 0]) 2 Tryd.zeroValue25 (fun p5_10 => ?_))
  refine kk (s_B (e' := [.int .i64 v7.st, .slice q91a v7.legs.length q91c]) Tryd.sizeOf25 ?_)
  refine kops_nil ?_
  refine kn_then ?_
  refine kwp_seq ?_
  refine kwp_region ?_
  refine kd (v_ldB Tryd.isAgg25 Tryd.sizeOf25) ?_
  obtain ⟨v12, hv11, h⟩ := e_bind h
  refine kk (n_call Tryd.call48 (w_spec_TreesAll q91a v7.legs.length q91c hv11) ?_)
  rintro _ _ ⟨q13a, q13c, q13R, rfl, hq13R, rfl⟩
  refine kd (v_as) ?_
  refine kops_nil ?_
  refine kn_then ?_
  refine kwp_seq ?_
  refine kwp_seq ?_
  refine kwp_cutE (inv := [(2, .pointer (some p2_2)), (4, .pointer (some q5p)), (5, .pointer (some p5_10)), (6, .slice q13a v12.length q13c)]) (fun (z : Bool × Int) (y : Unit) => [(20, .bool z.1)]) (fun (z : Bool × Int) (y : Unit) => (⟨.pointer (some q5p), 2, [[.slice q50a v4.b.length q50c, .int .i64 z.2]]⟩ :: ⟨.pointer (some p2_2), 2, [[.int .i64 0, .slice none 0 0]]⟩ :: ⟨.slice none 0 0, 5, ([] : List Leg).map encLeg⟩ :: ⟨.pointer (some p5_10), 2, [[.int .i64 v7.st, .slice q91a v7.legs.length q91c]]⟩ :: ⟨.slice q91a v7.legs.length q91c, 5, v7.legs.map encLeg⟩ :: ⟨.slice q13a v12.length q13c, 1, q13R.map encRow⟩ :: (rowsC q13R))) (fun _ _ => True) h ?_ ?_
  · intro t18 h16
    refine kwp_region ?_
    refine kd (v_mv) ?_
    refine kd (v_len Tryd.runUnderlying51) ?_
    refine kd (v_cmp) ?_
    refine kd (v_mv) ?_
    refine kops_split 16 rfl (fun hb19 => ?_) (fun hb19 => ?_)
    ·
      replace h16 := e_t h16 hb19
      refine kgd hb19 (v_mv) ?_
      obtain ⟨⟨v21, v22⟩, hv20, h16⟩ := e_bind h16
      refine kgk hb19 (n_call Tryd.call70 (w_spec_l20Rd_pick q5p q50a v4.b.length q50c hv20) ?_ (hv := (Views.cons (by repeat (first | exact mh | apply mt | apply mas | apply ms)) hvwq5 (Views.nil _))))
      rintro _ _ ⟨rfl, rfl⟩
      refine kgd hb19 (v_cmp) ?_
      refine kd (v_pt hb19) ?_
      refine kops_nil ?_
      refine kn_then ?_
      obtain rfl := e_some h16
      exact ⟨(), hd_mk trivial⟩
    ·
      replace h16 := e_f h16 hb19
      refine kskip hb19 ?_
      refine kskip hb19 ?_
      refine kskip hb19 ?_
      refine kd (v_pf hb19) ?_
      refine kops_nil ?_
      refine kn_then ?_
      obtain rfl := e_some h16
      exact ⟨(), hd_mk trivial⟩
  · intro z24 y25 _ h26
    obtain ⟨x14, p15⟩ := z24
    refine kn_then ?_
    refine kwp_cond rfl (fun hc27 => ?_) (fun hc27 => ?_)
    ·
      replace h26 := e_t h26 hc27
      refine kwp_seq ?_
      obtain ⟨⟨v29, v30⟩, hv28, h26⟩ := e_bind h26
      obtain ⟨j32, ej32, nj32, h26⟩ := e_idx h26
      refine kwp_tree (.quiet 0 (.quiet 1 (.quiet 2 (.quiet 3 (.quiet 4 (.one 5 (.quiet 6 (.quiet 7 (.one 8 (.quiet 9 .stop)))))))))) [] (⟨.pointer (some p5_10), 2, [[.int .i64 v7.st, .slice q91a v7.legs.length q91c]]⟩ :: ⟨.slice q13a v12.length q13c, 1, q13R.map encRow⟩ :: (rowsC q13R)) drawMixed (by kernel_rfl) nopan (by (repeat (first | exact Sub.refl _ | exact Sub.nil _ | refine Sub.chunk (by repeat (first | exact Pick.here | apply Pick.there | apply Pick.seg)) (by rfl) ?_ | refine Sub.seg (by repeat (first | exact PickSeg.here | exact PickSeg.all | apply PickSeg.there | apply PickSeg.seg)) ?_ | exact Sub.seg0 (by repeat (first | exact PickSeg.here | exact PickSeg.all | apply PickSeg.there | apply PickSeg.seg)) | apply Sub.assoc))) ?_
      refine kt_d rfl rfl rfl (v_ldB Tryd.isAgg25 Tryd.sizeOf25) ?_
      refine kt_d rfl rfl rfl (v_mv) ?_
      refine kt_d rfl rfl rfl (v_mv) ?_
      refine kt_d rfl rfl rfl (v_mv) ?_
      refine kt_d rfl rfl rfl (v_len Tryd.runUnderlying51) ?_
      refine kt_one ?_
      refine kl_k rfl rfl (n_call Tryd.call70 (w_spec_l20Rd_pick q5p q50a v4.b.length q50c hv28) ?_ (hv := (Views.cons (by repeat (first | exact mh | apply mt | apply mas | apply ms)) hvwq5 (Views.nil _))))
      rintro _ _ ⟨rfl, rfl⟩
      refine ⟨.inl (by (repeat (first | exact Sub.refl _ | exact Sub.nil _ | refine Sub.chunk (by repeat (first | exact Pick.here | apply Pick.there | apply Pick.seg)) (by rfl) ?_ | refine Sub.seg (by repeat (first | exact PickSeg.here | exact PickSeg.all | apply PickSeg.there | apply PickSeg.seg)) ?_ | exact Sub.seg0 (by repeat (first | exact PickSeg.here | exact PickSeg.all | apply PickSeg.there | apply PickSeg.seg)) | apply Sub.assoc))), ?_⟩
      refine kt_d rfl rfl rfl (v_ia ej32 nj32 Tryd.runUnderlying51 Tryd.sizeOf26) ?_
      refine kt_d rfl rfl rfl (v_ldr nj32 hq13R Tryd.isAgg26) ?_
      refine kt_one ?_
      refine kl_k rfl rfl (s_B (e' := [.int .i64 v7.st, .slice q91a v7.legs.length q91c]) Tryd.sizeOf25 ?_)
      refine ⟨.inl (by (repeat (first | exact Sub.refl _ | exact Sub.nil _ | refine Sub.chunk (by repeat (first | exact Pick.here | apply Pick.there | apply Pick.seg)) (by rfl) ?_ | refine Sub.seg (by repeat (first | exact PickSeg.here | exact PickSeg.all | apply PickSeg.there | apply PickSeg.seg)) ?_ | exact Sub.seg0 (by repeat (first | exact PickSeg.here | exact PickSeg.all | apply PickSeg.there | apply PickSeg.seg)) | apply Sub.assoc))), ?_⟩
      refine kt_d rfl rfl rfl (v_as) ?_
      refine kt_nil ?_
      refine kn_then ?_
      refine kwp_rowout (i := j32) hq13R nj32 ?_
      refine kwp_ret ?_
      refine kr_then ?_
      obtain rfl := e_some h26
      refine rc1 Tryd.isAgg25 Tryd.sizeOf25 [⟨.slice q91a v7.legs.length q91c, 5, v7.legs.map encLeg⟩, ⟨.slice (gx q13R j32).a (gx v12 j32).length (gx q13R j32).c, 1, (gx v12 j32).map encI⟩] ?_
      exact ⟨q91a, q91c, (gx q13R j32).a, (gx q13R j32).c, rfl, rfl⟩
    ·
      replace h26 := e_f h26 hc27
      refine kwp_skip ?_
      refine kn_then ?_
      refine kwp_seq ?_
      obtain ⟨⟨v34, v35⟩, hv33, h26⟩ := e_bind h26
      refine kwp_cutS (inv := [(2, .pointer (some p2_2))]) (fun (y : Addr) => [(3, .slice (some y) 2 2)]) (fun (y : Addr) => [⟨.pointer (some p2_2), 2, [[.int .i64 v7.st, .slice q91a v7.legs.length q91c]]⟩, ⟨.slice q91a v7.legs.length q91c, 5, v7.legs.map encLeg⟩, ⟨.slice (some y) 2 2, 1, ([v34, 2] : List Int).map encI⟩]) (fun (y : Addr) => True) ?_ ?_
      ·
        refine kwp_tree (.quiet 0 (.quiet 1 (.one 2 (.two 3 (.one 4 (.quiet 5 .stop)) 4 (.one 3 (.quiet 5 .stop)))))) [] [⟨.pointer (some p5_10), 2, [[.int .i64 v7.st, .slice q91a v7.legs.length q91c]]⟩] drawMixed (by kernel_rfl) nopan (by (repeat (first | exact Sub.refl _ | exact Sub.nil _ | refine Sub.chunk (by repeat (first | exact Pick.here | apply Pick.there | apply Pick.seg)) (by rfl) ?_ | refine Sub.seg (by repeat (first | exact PickSeg.here | exact PickSeg.all | apply PickSeg.there | apply PickSeg.seg)) ?_ | exact Sub.seg0 (by repeat (first | exact PickSeg.here | exact PickSeg.all | apply PickSeg.there | apply PickSeg.seg)) | apply Sub.assoc))) ?_
        refine kt_d rfl rfl rfl (v_ldB Tryd.isAgg25 Tryd.sizeOf25) ?_
        refine kt_d rfl rfl rfl (v_mv) ?_
        refine kt_one ?_
        refine kl_k rfl rfl (n_call Tryd.call70 (w_spec_l20Rd_pick q5p q50a v4.b.length q50c hv33) ?_ (hv := (Views.cons (by repeat (first | exact mh | apply mt | apply mas | apply ms)) hvwq5 (Views.nil _))))
        rintro _ _ ⟨rfl, rfl⟩
        refine ⟨.inl (by (repeat (first | exact Sub.refl _ | exact Sub.nil _ | refine Sub.chunk (by repeat (first | exact Pick.here | apply Pick.there | apply Pick.seg)) (by rfl) ?_ | refine Sub.seg (by repeat (first | exact PickSeg.here | exact PickSeg.all | apply PickSeg.there | apply PickSeg.seg)) ?_ | exact Sub.seg0 (by repeat (first | exact PickSeg.here | exact PickSeg.all | apply PickSeg.there | apply PickSeg.seg)) | apply Sub.assoc))), ?_⟩
        refine kt_two ?_ ?_
        ·
          refine kl_k rfl rfl (n_lit (enc := encI) [_, _] ([v34, 2] : List Int) Tryd.runUnderlying26 Tryd.sizeOf3 Tryd.zeroValue3 (fun a37 => ?_))
          refine ⟨.inl (by (repeat (first | exact Sub.refl _ | exact Sub.nil _ | refine Sub.chunk (by repeat (first | exact Pick.here | apply Pick.there | apply Pick.seg)) (by rfl) ?_ | refine Sub.seg (by repeat (first | exact PickSeg.here | exact PickSeg.all | apply PickSeg.there | apply PickSeg.seg)) ?_ | exact Sub.seg0 (by repeat (first | exact PickSeg.here | exact PickSeg.all | apply PickSeg.there | apply PickSeg.seg)) | apply Sub.assoc))), ?_⟩
          refine kt_one ?_
          refine kl_k rfl rfl (s_B (e' := [.int .i64 v7.st, .slice q91a v7.legs.length q91c]) Tryd.sizeOf25 ?_)
          refine ⟨.inl (by (repeat (first | exact Sub.refl _ | exact Sub.nil _ | refine Sub.chunk (by repeat (first | exact Pick.here | apply Pick.there | apply Pick.seg)) (by rfl) ?_ | refine Sub.seg (by repeat (first | exact PickSeg.here | exact PickSeg.all | apply PickSeg.there | apply PickSeg.seg)) ?_ | exact Sub.seg0 (by repeat (first | exact PickSeg.here | exact PickSeg.all | apply PickSeg.there | apply PickSeg.seg)) | apply Sub.assoc))), ?_⟩
          refine kt_d rfl rfl rfl (v_as) ?_
          refine kt_nil ?_
          refine kn_then ?_
          exact ⟨a37, hd_mk trivial⟩
        ·
          refine kl_k rfl rfl (s_B (e' := [.int .i64 v7.st, .slice q91a v7.legs.length q91c]) Tryd.sizeOf25 ?_)
          refine ⟨.inl (by (repeat (first | exact Sub.refl _ | exact Sub.nil _ | refine Sub.chunk (by repeat (first | exact Pick.here | apply Pick.there | apply Pick.seg)) (by rfl) ?_ | refine Sub.seg (by repeat (first | exact PickSeg.here | exact PickSeg.all | apply PickSeg.there | apply PickSeg.seg)) ?_ | exact Sub.seg0 (by repeat (first | exact PickSeg.here | exact PickSeg.all | apply PickSeg.there | apply PickSeg.seg)) | apply Sub.assoc))), ?_⟩
          refine kt_one ?_
          refine kl_k rfl rfl (n_lit (enc := encI) [_, _] ([v34, 2] : List Int) Tryd.runUnderlying26 Tryd.sizeOf3 Tryd.zeroValue3 (fun a37 => ?_))
          refine ⟨.inl (by (repeat (first | exact Sub.refl _ | exact Sub.nil _ | refine Sub.chunk (by repeat (first | exact Pick.here | apply Pick.there | apply Pick.seg)) (by rfl) ?_ | refine Sub.seg (by repeat (first | exact PickSeg.here | exact PickSeg.all | apply PickSeg.there | apply PickSeg.seg)) ?_ | exact Sub.seg0 (by repeat (first | exact PickSeg.here | exact PickSeg.all | apply PickSeg.there | apply PickSeg.seg)) | apply Sub.assoc))), ?_⟩
          refine kt_d rfl rfl rfl (v_as) ?_
          refine kt_nil ?_
          refine kn_then ?_
          exact ⟨a37, hd_mk trivial⟩
      · intro a37 _
        refine kn_then ?_
        refine k_len (c := 2) (fun hl39 => ?_)
        refine kwp_ret ?_
        obtain rfl := e_some h26
        refine rc1 Tryd.isAgg25 Tryd.sizeOf25 [⟨.slice q91a v7.legs.length q91c, 5, v7.legs.map encLeg⟩, ⟨.slice (some a37) 2 2, 1, ([v34, 2] : List Int).map encI⟩] ?_
        exact ⟨q91a, q91c, some a37, 2, by first | rfl | (rw [← hl39] <;> rfl) | ((try dsimp only); rw [← hl39] <;> rfl) | (simp; done), by first | rfl | (rw [← hl39] <;> rfl) | ((try dsimp only); rw [← hl39] <;> rfl) | (simp; done)⟩

set_option maxRecDepth 20000 in
set_option maxHeartbeats 2000000 in
theorem w_laws_FnTreeFix (code0a : Option Addr) (code0n : Nat) (code0c : Nat) {code0 : List UInt8} {r : Bool} (h : p_laws_FnTreeFix code0 = some r) :
    Triple Tryd.prog 3 [.slice code0a code0n code0c] [⟨.slice code0a code0n code0c, 1, code0.map encB⟩, tabC] [] (fun v ch => v = .bool r ∧ ch = []) := by
  refine triple_start 103 Tryd.func3 Tryd.ntmps3 rfl rfl (fun w0 => ?_)
  refine k_len (c := code0c) (fun hl1 => ?_)
  subst hl1
  unfold p_laws_FnTreeFix at h
  refine kwp_seq ?_
  refine kwp_region ?_
  refine kd (v_as) ?_
  refine kops_nil ?_
  refine kn_then ?_
  refine kwp_seq ?_
  refine kwp_seq ?_
  refine kwp_region ?_
  refine kd (v_mv) ?_
  refine kd (v_len Tryd.runUnderlying22) ?_
  refine kd (v_cmp) ?_
  refine kops_nil ?_
  refine kn_then ?_
  refine kwp_cond rfl (fun hc2 => ?_) (fun hc2 => ?_)
  ·
    replace h := e_t h hc2
    refine kwp_seq ?_
    refine kwp_region ?_
    refine kd (v_as) ?_
    refine kops_nil ?_
    refine kn_then ?_
    refine kwp_ret ?_
    refine kr_then ?_
    obtain rfl := e_some h
    refine r1 [] ?_
    exact ⟨rfl, rfl⟩
  ·
    replace h := e_f h hc2
    refine kwp_skip ?_
    refine kn_then ?_
    refine kwp_seq ?_
    refine kwp_region ?_
    refine kd (v_mv) ?_
    obtain ⟨⟨v4, v5⟩, hv3, h⟩ := e_bind h
    refine kk (n_call Tryd.call15 (w_spec_DrawTreeFix code0a code0.length code0c hv3) ?_)
    rintro _ _ ⟨q61a, q61c, q7a, q7c, rfl, rfl⟩
    refine kd (v_mv) ?_
    refine kd (v_ex) ?_
    refine kd (v_ex) ?_
    refine kops_nilchunk 5 (by decide) ?_
    refine kk (n_alloc (e := [.int .i64 0, .slice none 0 0]) 2 Tryd.zeroValue25 (fun p3_8 => ?_))
    refine kk (s_B (e' := [.int .i64 v4.st, .slice q61a v4.legs.length q61c]) Tryd.sizeOf25 ?_)
    refine kd (v_as) ?_
    refine kops_nil ?_
    refine kn_then ?_
    refine kwp_seq ?_
    refine kwp_region ?_
    refine kd (v_ldB Tryd.isAgg25 Tryd.sizeOf25) ?_
    refine kd (v_mv) ?_
    obtain ⟨⟨v10, v11⟩, hv9, h⟩ := e_bind h
    refine kk (n_call Tryd.call16 (w_impl_TreeFix q61a v4.legs.length q61c q7a v5.length q7c hv9) ?_)
    rintro _ _ ⟨q121a, q121c, rfl, rfl⟩
    refine kd (v_mv) ?_
    refine kd (v_ex) ?_
    refine kd (v_ex) ?_
    refine kops_nilchunk 3 (by decide) ?_
    refine kk (n_alloc (e := [.int .i64 0, .slice none 0 0]) 2 Tryd.zeroValue31 (fun p5_14 => ?_))
    refine kk (s_B (e' := [.int .i64 v10.den, .slice q121a v10.nums.length q121c]) Tryd.sizeOf31 ?_)
    refine kd (v_as) ?_
    refine kops_nil ?_
    refine kn_then ?_
    refine kwp_seq ?_
    refine kwp_region ?_
    refine kd (v_ldB Tryd.isAgg25 Tryd.sizeOf25) ?_
    refine kd (v_mv) ?_
    obtain ⟨⟨v16, v17⟩, hv15, h⟩ := e_bind h
    refine kk (n_call Tryd.call17 (w_spec_TreeFix q61a v4.legs.length q61c q7a v5.length q7c hv15) ?_)
    rintro _ _ ⟨q181a, q181c, rfl, rfl⟩
    refine kd (v_mv) ?_
    refine kd (v_ex) ?_
    refine kd (v_ex) ?_
    refine kops_nilchunk 3 (by decide) ?_
    refine kk (n_alloc (e := [.int .i64 0, .slice none 0 0]) 2 Tryd.zeroValue31 (fun p7_20 => ?_))
    refine kk (s_B (e' := [.int .i64 v16.den, .slice q181a v16.nums.length q181c]) Tryd.sizeOf31 ?_)
    refine kd (v_as) ?_
    refine kops_nil ?_
    refine kn_then ?_
    refine kwp_seq ?_
    refine kwp_seq ?_
    refine kwp_cutE (inv := [(3, .pointer (some p3_8)), (4, .slice q7a v5.length q7c), (5, .pointer (some p5_14)), (6, .bool v11)]) (fun (z : Bool) (y : Unit) => [(42, .bool z)]) (fun (z : Bool) (y : Unit) => [⟨.pointer (some p3_8), 2, [[.int .i64 v4.st, .slice q61a v4.legs.length q61c]]⟩, ⟨.slice q61a v4.legs.length q61c, 5, v4.legs.map encLeg⟩, ⟨.slice q7a v5.length q7c, 1, v5.map encI⟩, ⟨.pointer (some p5_14), 2, [[.int .i64 v10.den, .slice q121a v10.nums.length q121c]]⟩, ⟨.slice q121a v10.nums.length q121c, 3, v10.nums.map encWay⟩]) (fun _ _ => True) h ?_ ?_
    · intro t24 h22
      refine kwp_region ?_
      refine kd (v_ldB Tryd.isAgg31 Tryd.sizeOf31) ?_
      refine kd (v_ldB Tryd.isAgg31 Tryd.sizeOf31) ?_
      obtain ⟨v26, hv25, h22⟩ := e_bind h22
      refine kk (n_call Tryd.call18 (w_laws_sameFix q121a v10.nums.length q121c q181a v16.nums.length q181c hv25) ?_)
      rintro _ _ ⟨rfl, rfl⟩
      refine kd (v_not) ?_
      refine kd (v_mv) ?_
      refine kops_split 38 rfl (fun hb28 => ?_) (fun hb28 => ?_)
      ·
        replace h22 := e_t h22 hb28
        refine kskip hb28 ?_
        refine kskip hb28 ?_
        refine kskip hb28 ?_
        refine kd (v_pt hb28) ?_
        refine kops_nil ?_
        refine kn_then ?_
        obtain rfl := e_some h22
        exact ⟨(), hd_mk trivial⟩
      ·
        replace h22 := e_f h22 hb28
        refine kgd hb28 (v_mv) ?_
        refine kgd hb28 (v_mv) ?_
        refine kgd hb28 (v_neb Tryd.underlying4) ?_
        refine kd (v_pf hb28) ?_
        refine kops_nil ?_
        refine kn_then ?_
        obtain rfl := e_some h22
        exact ⟨(), hd_mk trivial⟩
    · intro x21 y30 _ h31
      refine kn_then ?_
      refine kwp_cond rfl (fun hc32 => ?_) (fun hc32 => ?_)
      ·
        replace h31 := e_t h31 hc32
        refine kwp_seq ?_
        refine kwp_region ?_
        refine kd (v_as) ?_
        refine kops_nil ?_
        refine kn_then ?_
        refine kwp_ret ?_
        refine kr_then ?_
        obtain rfl := e_some h31
        refine r1 [] ?_
        exact ⟨rfl, rfl⟩
      ·
        replace h31 := e_f h31 hc32
        refine kwp_skip ?_
        refine kn_then ?_
        refine kwp_seq ?_
        refine kwp_seq ?_
        refine kwp_region ?_
        refine kd (v_mv) ?_
        refine kd (v_not) ?_
        refine kops_nil ?_
        refine kn_then ?_
        refine kwp_cond rfl (fun hc33 => ?_) (fun hc33 => ?_)
        ·
          replace h31 := e_t h31 hc33
          refine kwp_seq ?_
          refine kwp_region ?_
          refine kd (v_fb fa_31_0) ?_
          refine kd (v_ldb Tryd.isAgg3) ?_
          refine kd (v_cmp) ?_
          refine kd (v_mv) ?_
          refine kops_split 48 rfl (fun hb34 => ?_) (fun hb34 => ?_)
          ·
            replace h31 := e_t h31 hb34
            refine kgd hb34 (v_fb fa_31_1) ?_
            refine kgd hb34 (v_ldb Tryd.isAgg29) ?_
            refine kgd hb34 (v_len Tryd.runUnderlying29) ?_
            refine kgd hb34 (v_cmp) ?_
            refine kd (v_pt hb34) ?_
            refine kd (v_mv) ?_
            refine kops_split 54 rfl (fun hb35 => ?_) (fun hb35 => ?_)
            ·
              replace h31 := e_t h31 hb35
              obtain ⟨v37, hv36, h31⟩ := e_bind h31
              refine kgk hb35 (n_call Tryd.call19 (w_laws_alive hv36) ?_)
              rintro _ _ ⟨rfl, rfl⟩
              refine kd (v_pt hb35) ?_
              refine kd (v_as) ?_
              refine kops_nil ?_
              refine kn_then ?_
              refine kwp_ret ?_
              refine kr_then ?_
              obtain rfl := e_some h31
              refine r1 [] ?_
              exact ⟨rfl, rfl⟩
            ·
              replace h31 := e_f h31 hb35
              refine kskip hb35 ?_
              refine kd (v_pf hb35) ?_
              refine kd (v_as) ?_
              refine kops_nil ?_
              refine kn_then ?_
              refine kwp_ret ?_
              refine kr_then ?_
              obtain rfl := e_some h31
              refine r1 [] ?_
              exact ⟨rfl, rfl⟩
          ·
            replace h31 := e_f h31 hb34
            refine kskip hb34 ?_
            refine kskip hb34 ?_
            refine kskip hb34 ?_
            refine kskip hb34 ?_
            refine kd (v_pf hb34) ?_
            refine kd (v_mv) ?_
            refine kskip rfl ?_
            refine kd (v_pf rfl) ?_
            refine kd (v_as) ?_
            refine kops_nil ?_
            refine kn_then ?_
            refine kwp_ret ?_
            refine kr_then ?_
            obtain rfl := e_some h31
            refine r1 [] ?_
            exact ⟨rfl, rfl⟩
        ·
          replace h31 := e_f h31 hc33
          refine kwp_skip ?_
          refine kn_then ?_
          refine kwp_seq ?_
          refine kwp_seq ?_
          refine kwp_region ?_
          refine kd (v_as) ?_
          refine kops_nil ?_
          refine kn_then ?_
          refine kwp_cutO (inv := [(3, .pointer (some p3_8)), (5, .pointer (some p5_14))]) (fun (z : Unit) (y : Unit) => []) (fun (z : Unit) (y : Unit) => [⟨.pointer (some p3_8), 2, [[.int .i64 v4.st, .slice q61a v4.legs.length q61c]]⟩, ⟨.slice q61a v4.legs.length q61c, 5, v4.legs.map encLeg⟩, ⟨.pointer (some p5_14), 2, [[.int .i64 v10.den, .slice q121a v10.nums.length q121c]]⟩, ⟨.slice q121a v10.nums.length q121c, 3, v10.nums.map encWay⟩]) (fun _ _ => True) h31 ?_ ?_
          · intro t41 h39 g40
            refine kwp_block ?_
            refine kwp_loopE (inv := [(3, .pointer (some p3_8)), (4, .slice q7a v5.length q7c), (5, .pointer (some p5_14))]) (fun (z : Int) (y : Unit) => [(9, .int .i64 z)]) (fun (z : Int) (y : Unit) => [⟨.pointer (some p3_8), 2, [[.int .i64 v4.st, .slice q61a v4.legs.length q61c]]⟩, ⟨.slice q61a v4.legs.length q61c, 5, v4.legs.map encLeg⟩, ⟨.slice q7a v5.length q7c, 1, v5.map encI⟩, ⟨.pointer (some p5_14), 2, [[.int .i64 v10.den, .slice q121a v10.nums.length q121c]]⟩, ⟨.slice q121a v10.nums.length q121c, 3, v10.nums.map encWay⟩]) (fun _ _ => True) h39 ⟨(), hd_mk trivial⟩ ?_
            intro k42 y46 b43 _ h44
            unfold p_laws_FnTreeFix_L0 at h44
            refine kwp_seq ?_
            refine kwp_seq ?_
            refine kwp_region ?_
            refine kd (v_mv) ?_
            refine kd (v_mv) ?_
            refine kd (v_len Tryd.runUnderlying26) ?_
            refine kd (v_cmp) ?_
            refine kops_nil ?_
            refine kn_then ?_
            refine kwp_cond rfl (fun hc47 => ?_) (fun hc47 => ?_)
            ·
              replace h44 := e_t h44 hc47
              refine kwp_skip ?_
              refine kn_then ?_
              refine kwp_seq ?_
              refine kwp_block ?_
              refine kwp_seq ?_
              obtain ⟨j48, ej48, nj48, h44⟩ := e_idx h44
              obtain ⟨⟨v50, v51⟩, hv49, h44⟩ := e_bind h44
              refine kwp_cutS (inv := [(3, .pointer (some p3_8)), (4, .slice q7a v5.length q7c), (5, .pointer (some p5_14)), (9, .int .i64 k42), (11, .bool v51)]) (fun (y : Addr) => [(10, .pointer (some y))]) (fun (y : Addr) => [⟨.pointer (some p3_8), 2, [[.int .i64 v4.st, .slice q61a v4.legs.length q61c]]⟩, ⟨.slice q61a v4.legs.length q61c, 5, v4.legs.map encLeg⟩, ⟨.slice q7a v5.length q7c, 1, v5.map encI⟩, ⟨.pointer (some p5_14), 2, [[.int .i64 v10.den, .slice q121a v10.nums.length q121c]]⟩, ⟨.slice q121a v10.nums.length q121c, 3, v10.nums.map encWay⟩, ⟨.pointer (some y), 3, [[.int .i64 v50.e, .int .i64 v50.n, .int .i64 v50.u]]⟩]) (fun (y : Addr) => True) ?_ ?_
              ·
                refine kwp_tree (.quiet 0 (.quiet 1 (.quiet 2 (.quiet 3 (.quiet 4 (.quiet 5 (.two 6 (.quiet 7 (.quiet 8 (.quiet 9 (.one 10 (.one 11 (.quiet 12 .stop)))))) 10 (.one 6 (.quiet 7 (.quiet 8 (.quiet 9 (.one 11 (.quiet 12 .stop))))))))))))) [] [⟨.slice q7a v5.length q7c, 1, v5.map encI⟩, ⟨.pointer (some p3_8), 2, [[.int .i64 v4.st, .slice q61a v4.legs.length q61c]]⟩, ⟨.pointer (some p5_14), 2, [[.int .i64 v10.den, .slice q121a v10.nums.length q121c]]⟩] drawMixed (by kernel_rfl) nopan (by (repeat (first | exact Sub.refl _ | exact Sub.nil _ | refine Sub.chunk (by repeat (first | exact Pick.here | apply Pick.there | apply Pick.seg)) (by rfl) ?_ | refine Sub.seg (by repeat (first | exact PickSeg.here | exact PickSeg.all | apply PickSeg.there | apply PickSeg.seg)) ?_ | exact Sub.seg0 (by repeat (first | exact PickSeg.here | exact PickSeg.all | apply PickSeg.there | apply PickSeg.seg)) | apply Sub.assoc))) ?_
                refine kt_d rfl rfl rfl (v_ldB Tryd.isAgg25 Tryd.sizeOf25) ?_
                refine kt_d rfl rfl rfl (v_ldB Tryd.isAgg31 Tryd.sizeOf31) ?_
                refine kt_d rfl rfl rfl (v_mv) ?_
                refine kt_d rfl rfl rfl (v_mv) ?_
                refine kt_d rfl rfl rfl (v_ia ej48 nj48 Tryd.runUnderlying26 Tryd.sizeOf3) ?_
                refine kt_d rfl rfl rfl (v_ldf nj48 Tryd.isAgg3) ?_
                refine kt_two ?_ ?_
                ·
                  refine kl_k rfl rfl (n_call Tryd.call20 (w_impl_FixMiss q61a v4.legs.length q61c q121a v10.nums.length q121c hv49) ?_)
                  rintro _ _ ⟨rfl, rfl⟩
                  refine ⟨.inl (by (repeat (first | exact Sub.refl _ | exact Sub.nil _ | refine Sub.chunk (by repeat (first | exact Pick.here | apply Pick.there | apply Pick.seg)) (by rfl) ?_ | refine Sub.seg (by repeat (first | exact PickSeg.here | exact PickSeg.all | apply PickSeg.there | apply PickSeg.seg)) ?_ | exact Sub.seg0 (by repeat (first | exact PickSeg.here | exact PickSeg.all | apply PickSeg.there | apply PickSeg.seg)) | apply Sub.assoc))), ?_⟩
                  refine kt_d rfl rfl rfl (v_mv) ?_
                  refine kt_d rfl rfl rfl (v_ex) ?_
                  refine kt_d rfl rfl rfl (v_ex) ?_
                  refine kt_one ?_
                  refine kl_k rfl rfl (n_alloc (e := [.int .i64 0, .int .i64 0, .int .i64 0]) 3 Tryd.zeroValue37 (fun p10_54 => ?_))
                  refine ⟨.inl (by (repeat (first | exact Sub.refl _ | exact Sub.nil _ | refine Sub.chunk (by repeat (first | exact Pick.here | apply Pick.there | apply Pick.seg)) (by rfl) ?_ | refine Sub.seg (by repeat (first | exact PickSeg.here | exact PickSeg.all | apply PickSeg.there | apply PickSeg.seg)) ?_ | exact Sub.seg0 (by repeat (first | exact PickSeg.here | exact PickSeg.all | apply PickSeg.there | apply PickSeg.seg)) | apply Sub.assoc))), ?_⟩
                  refine kt_one ?_
                  refine kl_k rfl rfl (s_B (e' := [.int .i64 v50.e, .int .i64 v50.n, .int .i64 v50.u]) Tryd.sizeOf37 ?_)
                  refine ⟨.inl (by (repeat (first | exact Sub.refl _ | exact Sub.nil _ | refine Sub.chunk (by repeat (first | exact Pick.here | apply Pick.there | apply Pick.seg)) (by rfl) ?_ | refine Sub.seg (by repeat (first | exact PickSeg.here | exact PickSeg.all | apply PickSeg.there | apply PickSeg.seg)) ?_ | exact Sub.seg0 (by repeat (first | exact PickSeg.here | exact PickSeg.all | apply PickSeg.there | apply PickSeg.seg)) | apply Sub.assoc))), ?_⟩
                  refine kt_d rfl rfl rfl (v_as) ?_
                  refine kt_nil ?_
                  refine kn_then ?_
                  exact ⟨p10_54, hd_mk trivial⟩
                ·
                  refine kl_k rfl rfl (n_alloc (e := [.int .i64 0, .int .i64 0, .int .i64 0]) 3 Tryd.zeroValue37 (fun p10_54 => ?_))
                  refine ⟨.inl (by (repeat (first | exact Sub.refl _ | exact Sub.nil _ | refine Sub.chunk (by repeat (first | exact Pick.here | apply Pick.there | apply Pick.seg)) (by rfl) ?_ | refine Sub.seg (by repeat (first | exact PickSeg.here | exact PickSeg.all | apply PickSeg.there | apply PickSeg.seg)) ?_ | exact Sub.seg0 (by repeat (first | exact PickSeg.here | exact PickSeg.all | apply PickSeg.there | apply PickSeg.seg)) | apply Sub.assoc))), ?_⟩
                  refine kt_one ?_
                  refine kl_k rfl rfl (n_call Tryd.call20 (w_impl_FixMiss q61a v4.legs.length q61c q121a v10.nums.length q121c hv49) ?_)
                  rintro _ _ ⟨rfl, rfl⟩
                  refine ⟨.inl (by (repeat (first | exact Sub.refl _ | exact Sub.nil _ | refine Sub.chunk (by repeat (first | exact Pick.here | apply Pick.there | apply Pick.seg)) (by rfl) ?_ | refine Sub.seg (by repeat (first | exact PickSeg.here | exact PickSeg.all | apply PickSeg.there | apply PickSeg.seg)) ?_ | exact Sub.seg0 (by repeat (first | exact PickSeg.here | exact PickSeg.all | apply PickSeg.there | apply PickSeg.seg)) | apply Sub.assoc))), ?_⟩
                  refine kt_d rfl rfl rfl (v_mv) ?_
                  refine kt_d rfl rfl rfl (v_ex) ?_
                  refine kt_d rfl rfl rfl (v_ex) ?_
                  refine kt_one ?_
                  refine kl_k rfl rfl (s_B (e' := [.int .i64 v50.e, .int .i64 v50.n, .int .i64 v50.u]) Tryd.sizeOf37 ?_)
                  refine ⟨.inl (by (repeat (first | exact Sub.refl _ | exact Sub.nil _ | refine Sub.chunk (by repeat (first | exact Pick.here | apply Pick.there | apply Pick.seg)) (by rfl) ?_ | refine Sub.seg (by repeat (first | exact PickSeg.here | exact PickSeg.all | apply PickSeg.there | apply PickSeg.seg)) ?_ | exact Sub.seg0 (by repeat (first | exact PickSeg.here | exact PickSeg.all | apply PickSeg.there | apply PickSeg.seg)) | apply Sub.assoc))), ?_⟩
                  refine kt_d rfl rfl rfl (v_as) ?_
                  refine kt_nil ?_
                  refine kn_then ?_
                  exact ⟨p10_54, hd_mk trivial⟩
              · intro p10_54 _
                refine kn_then ?_
                refine kwp_seq ?_
                refine kwp_region ?_
                refine kd (v_mv) ?_
                refine kd (v_not) ?_
                refine kd (v_mv) ?_
                refine kops_split 75 rfl (fun hb56 => ?_) (fun hb56 => ?_)
                ·
                  replace h44 := e_t h44 hb56
                  refine kskip hb56 ?_
                  refine kskip hb56 ?_
                  refine kskip hb56 ?_
                  refine kd (v_pt hb56) ?_
                  refine kops_nil ?_
                  refine kn_then ?_
                  refine kwp_cond_t rfl rfl ?_
                  refine kwp_seq ?_
                  refine kwp_region ?_
                  refine kd (v_as) ?_
                  refine kops_nil ?_
                  refine kn_then ?_
                  refine kwp_ret ?_
                  refine kr_block ?_
                  refine kr_then ?_
                  refine kr_then ?_
                  obtain rfl := e_some h44
                  refine k_out ?_ rfl
                  rintro rfl
                  refine kr_block ?_
                  refine kr_then ?_
                  refine kr_then ?_
                  obtain rfl := e_some g40
                  refine r1 [] ?_
                  exact ⟨rfl, rfl⟩
                ·
                  replace h44 := e_f h44 hb56
                  refine kgd hb56 (v_ldB Tryd.isAgg37 Tryd.sizeOf37) ?_
                  refine kgd hb56 (v_bd [] [.int .i64 0, .int .i64 0, .int .i64 0] Tryd.zeroValue37 Tryd.runUnderlying37 pl_37) ?_
                  refine kgd hb56 (v_nea eg_37 he_37 hp_37 (eqf_37 _ _ _ _ _ _)) ?_
                  refine kd (v_pf hb56) ?_
                  refine kops_nil ?_
                  refine kn_then ?_
                  refine kwp_cond rfl (fun hc57 => ?_) (fun hc57 => ?_)
                  ·
                    replace h44 := e_t h44 hc57
                    refine kwp_seq ?_
                    refine kwp_region ?_
                    refine kd (v_as) ?_
                    refine kops_nil ?_
                    refine kn_then ?_
                    refine kwp_ret ?_
                    refine kr_block ?_
                    refine kr_then ?_
                    refine kr_then ?_
                    obtain rfl := e_some h44
                    refine k_out ?_ rfl
                    rintro rfl
                    refine kr_block ?_
                    refine kr_then ?_
                    refine kr_then ?_
                    obtain rfl := e_some g40
                    refine r1 [] ?_
                    exact ⟨rfl, rfl⟩
                  ·
                    replace h44 := e_f h44 hc57
                    refine kwp_skip ?_
                    refine kn_block ?_
                    refine kn_then ?_
                    refine kwp_region ?_
                    refine kd (v_mv) ?_
                    refine kd (v_add) ?_
                    refine kd (v_as) ?_
                    refine kops_nil ?_
                    refine kn_then ?_
                    obtain rfl := e_some h44
                    exact ⟨_, (), rfl, hd_mk trivial⟩
            ·
              replace h44 := e_f h44 hc47
              refine kwp_exit ?_
              refine ke_then ?_
              obtain rfl := e_some h44
              refine k_out ?_ rfl
              rintro rfl
              refine ke_block ?_
              exact ⟨_, (), rfl, hd_mk trivial⟩
          · intro z58 y59 _ h60
            refine kn_then ?_
            refine kwp_seq ?_
            refine kwp_region ?_
            refine kd (v_ldB Tryd.isAgg25 Tryd.sizeOf25) ?_
            obtain ⟨⟨v62, v63⟩, hv61, h60⟩ := e_bind h60
            refine kk (n_call Tryd.call21 (w_impl_Adjust q61a v4.legs.length q61c hv61) ?_)
            rintro _ _ ⟨q641a, q641c, rfl, rfl⟩
            refine kd (v_mv) ?_
            refine kd (v_ex) ?_
            refine kd (v_ex) ?_
            refine kops_nilchunk 3 (by decide) ?_
            refine kk (n_alloc (e := [.int .i64 0, .slice none 0 0]) 2 Tryd.zeroValue31 (fun p12_66 => ?_))
            refine kk (s_B (e' := [.int .i64 v62.den, .slice q641a v62.nums.length q641c]) Tryd.sizeOf31 ?_)
            refine kd (v_as) ?_
            refine kops_nil ?_
            refine kn_then ?_
            refine kwp_seq ?_
            obtain ⟨v68, hv67, h60⟩ := e_bind h60
            refine sp v68 (fun hb70 => ?_) (fun hb70 => ?_)
            ·
              replace h60 := e_t h60 hb70
              obtain ⟨v72, hv71, h60⟩ := e_bind h60
              obtain ⟨v75, hv74, h60⟩ := e_bind h60
              refine kwp_tree (.quiet 0 (.quiet 1 (.one 2 (.quiet 3 (.quiet 4 (.quiet 5 (.quiet 7 (.quiet 8 (.quiet 10 (.quiet 11 (.quiet 13 (.quiet 14 (.one 6 (.one 9 (.quiet 12 (.quiet 15 (.quiet 16 (.quiet 17 (.quiet 18 .stop))))))))))))))))))) [] [⟨.pointer (some p3_8), 2, [[.int .i64 v4.st, .slice q61a v4.legs.length q61c]]⟩, ⟨.pointer (some p5_14), 2, [[.int .i64 v10.den, .slice q121a v10.nums.length q121c]]⟩, ⟨.pointer (some p12_66), 2, [[.int .i64 v62.den, .slice q641a v62.nums.length q641c]]⟩] drawMixed (by kernel_rfl) nopan (by (repeat (first | exact Sub.refl _ | exact Sub.nil _ | refine Sub.chunk (by repeat (first | exact Pick.here | apply Pick.there | apply Pick.seg)) (by rfl) ?_ | refine Sub.seg (by repeat (first | exact PickSeg.here | exact PickSeg.all | apply PickSeg.there | apply PickSeg.seg)) ?_ | exact Sub.seg0 (by repeat (first | exact PickSeg.here | exact PickSeg.all | apply PickSeg.there | apply PickSeg.seg)) | apply Sub.assoc))) ?_
              refine kt_d rfl rfl rfl (v_ldB Tryd.isAgg25 Tryd.sizeOf25) ?_
              refine kt_d rfl rfl rfl (v_ldB Tryd.isAgg31 Tryd.sizeOf31) ?_
              refine kt_one ?_
              refine kl_k rfl rfl (n_call Tryd.call22 (w_impl_FixValid q61a v4.legs.length q61c q121a v10.nums.length q121c hv67) ?_)
              rintro _ _ ⟨rfl, rfl⟩
              refine ⟨.inl (by (repeat (first | exact Sub.refl _ | exact Sub.nil _ | refine Sub.chunk (by repeat (first | exact Pick.here | apply Pick.there | apply Pick.seg)) (by rfl) ?_ | refine Sub.seg (by repeat (first | exact PickSeg.here | exact PickSeg.all | apply PickSeg.there | apply PickSeg.seg)) ?_ | exact Sub.seg0 (by repeat (first | exact PickSeg.here | exact PickSeg.all | apply PickSeg.there | apply PickSeg.seg)) | apply Sub.assoc))), ?_⟩
              refine kt_d rfl rfl rfl (v_mv) ?_
              refine kt_gv rfl rfl rfl rfl hb70 (v_ldB Tryd.isAgg25 Tryd.sizeOf25) ?_
              refine kt_gv rfl rfl rfl rfl hb70 (v_ldB Tryd.isAgg31 Tryd.sizeOf31) ?_
              refine kt_gv rfl rfl rfl rfl hb70 (v_ldB Tryd.isAgg25 Tryd.sizeOf25) ?_
              refine kt_gv rfl rfl rfl rfl hb70 (v_ldB Tryd.isAgg31 Tryd.sizeOf31) ?_
              refine kt_gv rfl rfl rfl rfl hb70 (v_fb fa_31_0) ?_
              refine kt_gv rfl rfl rfl rfl hb70 (v_ldb Tryd.isAgg3) ?_
              refine kt_gv rfl rfl rfl rfl hb70 (v_fb fa_31_0) ?_
              refine kt_gv rfl rfl rfl rfl hb70 (v_ldb Tryd.isAgg3) ?_
              refine kt_one ?_
              refine kl_gk rfl rfl rfl rfl hb70 (n_call Tryd.call23 (w_impl_FixSum q61a v4.legs.length q61c q641a v62.nums.length q641c hv71) ?_)
              rintro _ _ ⟨rfl, rfl⟩
              refine ⟨.inl (by (repeat (first | exact Sub.refl _ | exact Sub.nil _ | refine Sub.chunk (by repeat (first | exact Pick.here | apply Pick.there | apply Pick.seg)) (by rfl) ?_ | refine Sub.seg (by repeat (first | exact PickSeg.here | exact PickSeg.all | apply PickSeg.there | apply PickSeg.seg)) ?_ | exact Sub.seg0 (by repeat (first | exact PickSeg.here | exact PickSeg.all | apply PickSeg.there | apply PickSeg.seg)) | apply Sub.assoc))), ?_⟩
              refine kt_one ?_
              refine kl_gk rfl rfl rfl rfl hb70 (n_call Tryd.call23 (w_impl_FixSum q61a v4.legs.length q61c q121a v10.nums.length q121c hv74) ?_)
              rintro _ _ ⟨rfl, rfl⟩
              refine ⟨.inl (by (repeat (first | exact Sub.refl _ | exact Sub.nil _ | refine Sub.chunk (by repeat (first | exact Pick.here | apply Pick.there | apply Pick.seg)) (by rfl) ?_ | refine Sub.seg (by repeat (first | exact PickSeg.here | exact PickSeg.all | apply PickSeg.there | apply PickSeg.seg)) ?_ | exact Sub.seg0 (by repeat (first | exact PickSeg.here | exact PickSeg.all | apply PickSeg.there | apply PickSeg.seg)) | apply Sub.assoc))), ?_⟩
              refine kt_gv rfl rfl rfl rfl hb70 (v_mul) ?_
              refine kt_gv rfl rfl rfl rfl hb70 (v_mul) ?_
              refine kt_gv rfl rfl rfl rfl hb70 (v_cmp) ?_
              refine kt_d rfl rfl rfl (v_pt hb70) ?_
              refine kt_d rfl rfl rfl (v_as) ?_
              refine kt_nil ?_
              refine kn_then ?_
              refine kwp_ret ?_
              obtain rfl := e_some h60
              refine r1 [] ?_
              exact ⟨rfl, rfl⟩
            ·
              replace h60 := e_f h60 hb70
              refine kwp_tree (.quiet 0 (.quiet 1 (.one 2 (.quiet 3 (.quiet 4 (.quiet 5 (.quiet 7 (.quiet 8 (.quiet 10 (.quiet 11 (.quiet 13 (.quiet 14 (.one 6 (.one 9 (.quiet 12 (.quiet 15 (.quiet 16 (.quiet 17 (.quiet 18 .stop))))))))))))))))))) [] [⟨.pointer (some p3_8), 2, [[.int .i64 v4.st, .slice q61a v4.legs.length q61c]]⟩, ⟨.pointer (some p5_14), 2, [[.int .i64 v10.den, .slice q121a v10.nums.length q121c]]⟩] drawMixed (by kernel_rfl) nopan (by (repeat (first | exact Sub.refl _ | exact Sub.nil _ | refine Sub.chunk (by repeat (first | exact Pick.here | apply Pick.there | apply Pick.seg)) (by rfl) ?_ | refine Sub.seg (by repeat (first | exact PickSeg.here | exact PickSeg.all | apply PickSeg.there | apply PickSeg.seg)) ?_ | exact Sub.seg0 (by repeat (first | exact PickSeg.here | exact PickSeg.all | apply PickSeg.there | apply PickSeg.seg)) | apply Sub.assoc))) ?_
              refine kt_d rfl rfl rfl (v_ldB Tryd.isAgg25 Tryd.sizeOf25) ?_
              refine kt_d rfl rfl rfl (v_ldB Tryd.isAgg31 Tryd.sizeOf31) ?_
              refine kt_one ?_
              refine kl_k rfl rfl (n_call Tryd.call22 (w_impl_FixValid q61a v4.legs.length q61c q121a v10.nums.length q121c hv67) ?_)
              rintro _ _ ⟨rfl, rfl⟩
              refine ⟨.inl (by (repeat (first | exact Sub.refl _ | exact Sub.nil _ | refine Sub.chunk (by repeat (first | exact Pick.here | apply Pick.there | apply Pick.seg)) (by rfl) ?_ | refine Sub.seg (by repeat (first | exact PickSeg.here | exact PickSeg.all | apply PickSeg.there | apply PickSeg.seg)) ?_ | exact Sub.seg0 (by repeat (first | exact PickSeg.here | exact PickSeg.all | apply PickSeg.there | apply PickSeg.seg)) | apply Sub.assoc))), ?_⟩
              refine kt_d rfl rfl rfl (v_mv) ?_
              refine kt_skip rfl rfl rfl rfl hb70 ?_
              refine kt_skip rfl rfl rfl rfl hb70 ?_
              refine kt_skip rfl rfl rfl rfl hb70 ?_
              refine kt_skip rfl rfl rfl rfl hb70 ?_
              refine kt_skip rfl rfl rfl rfl hb70 ?_
              refine kt_skip rfl rfl rfl rfl hb70 ?_
              refine kt_skip rfl rfl rfl rfl hb70 ?_
              refine kt_skip rfl rfl rfl rfl hb70 ?_
              refine kt_one ?_
              refine kl_skip rfl rfl rfl rfl hb70 (by (repeat (first | exact Sub.refl _ | exact Sub.nil _ | refine Sub.chunk (by repeat (first | exact Pick.here | apply Pick.there | apply Pick.seg)) (by rfl) ?_ | refine Sub.seg (by repeat (first | exact PickSeg.here | exact PickSeg.all | apply PickSeg.there | apply PickSeg.seg)) ?_ | exact Sub.seg0 (by repeat (first | exact PickSeg.here | exact PickSeg.all | apply PickSeg.there | apply PickSeg.seg)) | apply Sub.assoc))) ?_
              refine kt_one ?_
              refine kl_skip rfl rfl rfl rfl hb70 (by (repeat (first | exact Sub.refl _ | exact Sub.nil _ | refine Sub.chunk (by repeat (first | exact Pick.here | apply Pick.there | apply Pick.seg)) (by rfl) ?_ | refine Sub.seg (by repeat (first | exact PickSeg.here | exact PickSeg.all | apply PickSeg.there | apply PickSeg.seg)) ?_ | exact Sub.seg0 (by repeat (first | exact PickSeg.here | exact PickSeg.all | apply PickSeg.there | apply PickSeg.seg)) | apply Sub.assoc))) ?_
              refine kt_skip rfl rfl rfl rfl hb70 ?_
              refine kt_skip rfl rfl rfl rfl hb70 ?_
              refine kt_skip rfl rfl rfl rfl hb70 ?_
              refine kt_d rfl rfl rfl (v_pf hb70) ?_
              refine kt_d rfl rfl rfl (v_as) ?_
              refine kt_nil ?_
              refine kn_then ?_
              refine kwp_ret ?_
              obtain rfl := e_some h60
              refine r1 [] ?_
              exact ⟨rfl, rfl⟩

end Go.Proofs.YtnibfmofkamjoaaDoor
