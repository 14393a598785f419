/- What the plain programs return, the functions of the program return; no condition. -/
import Derived.Test.YtkhjbfngafebeaaZQ
import Derived.Test.YtkhjbfngafebeaaZFa
import Derived.Test.YtkhjbfngafebeaaZVba
import Derived.Test.YtkhjbfngafebeaaZVbq
namespace Go.Proofs.Ytkhjbfngafebeaa
open Go
set_option linter.unusedVariables false
set_option linter.unusedSimpArgs false

set_option maxRecDepth 20000 in
set_option maxHeartbeats 2000000 in
theorem w_impl_TreeFix (s01a : Option Addr) (s01n : Nat) (s01c : Nat) (tree0a : Option Addr) (tree0n : Nat) (tree0c : Nat) {s0 : Survey} {tree0 : List Int} {r : Fix × Bool} (h : p_impl_TreeFix s0 tree0 = some r) :
    Triple Try.prog 17 [.agg #[.int .i64 s0.st, .slice s01a s01n s01c], .slice tree0a tree0n tree0c] [⟨.slice s01a s01n s01c, 5, s0.legs.map encLeg⟩, ⟨.slice tree0a tree0n tree0c, 1, tree0.map encI⟩] [] (fun v ch => ∃ (w01a : Option Addr) (w01c : Nat), v = .tuple #[.agg #[.int .i64 r.1.den, .slice w01a r.1.nums.length w01c], .bool r.2] ∧ ch = [⟨.slice w01a r.1.nums.length w01c, 3, r.1.nums.map encWay⟩]) := by
  refine triple_start 61 Try.func17 Try.ntmps17 rfl rfl (fun w0 => ?_)
  refine k_len (c := s01c) (fun hl1 => ?_)
  subst hl1
  refine k_len (c := tree0c) (fun hl2 => ?_)
  subst hl2
  unfold p_impl_TreeFix at h
  refine kwp_seq ?_
  refine kwp_region ?_
  refine kk (n_box (e := [.int .i64 s0.st, .slice s01a s0.legs.length s01c]) 2 (fun p2_3 => ?_))
  refine kops_nilchunk 3 (by decide) ?_
  refine kk (n_alloc (e := [.int .i64 0, .slice none 0 0]) 2 Try.zeroValue28 (fun p4_4 => ?_))
  refine kd (v_as) ?_
  refine kops_nil ?_
  refine kn_then ?_
  refine kwp_seq ?_
  refine kwp_seq ?_
  refine kwp_cutE (inv := [(1, .slice tree0a tree0.length tree0c), (2, .pointer (some p2_3)), (4, .pointer (some p4_4))]) (fun (z : Bool) (y : Unit) => [(19, .bool z)]) (fun (z : Bool) (y : Unit) => [⟨.pointer (some p2_3), 2, [[.int .i64 s0.st, .slice s01a s0.legs.length s01c]]⟩, ⟨.pointer (some p4_4), 2, [[.int .i64 0, .slice none 0 0]]⟩, ⟨.slice none 0 0, 3, ([] : List Way).map encWay⟩]) (fun _ _ => True) h ?_ ?_
  · intro t8 h6
    refine kwp_region ?_
    refine kd (v_ldB Try.isAgg33 Try.sizeOf33) ?_
    obtain ⟨v10, hv9, h6⟩ := e_bind h6
    refine kk (n_call Try.call29 (w_impl_SurveyValid s01a s0.legs.length s01c hv9) ?_)
    rintro _ _ ⟨rfl, rfl⟩
    refine kd (v_not) ?_
    refine kd (v_mv) ?_
    refine kops_split 14 rfl (fun hb12 => ?_) (fun hb12 => ?_)
    ·
      replace h6 := e_t h6 hb12
      refine kskip hb12 ?_
      refine kskip hb12 ?_
      refine kskip hb12 ?_
      refine kskip hb12 ?_
      refine kd (v_pt hb12) ?_
      refine kops_nil ?_
      refine kn_then ?_
      obtain rfl := e_some h6
      exact ⟨(), hd_mk trivial⟩
    ·
      replace h6 := e_f h6 hb12
      refine kgd hb12 (v_ldB Try.isAgg33 Try.sizeOf33) ?_
      refine kgd hb12 (v_mv) ?_
      obtain ⟨v14, hv13, h6⟩ := e_bind h6
      refine kgk hb12 (n_call Try.call40 (w_impl_isTree s01a s0.legs.length s01c tree0a tree0.length tree0c hv13) ?_)
      rintro _ _ ⟨rfl, rfl⟩
      refine kgd hb12 (v_not) ?_
      refine kd (v_pf hb12) ?_
      refine kops_nil ?_
      refine kn_then ?_
      obtain rfl := e_some h6
      exact ⟨(), hd_mk trivial⟩
  · intro x5 y17 _ h18
    refine kn_then ?_
    refine kwp_cond rfl (fun hc19 => ?_) (fun hc19 => ?_)
    ·
      replace h18 := e_t h18 hc19
      refine kwp_seq ?_
      refine kwp_region ?_
      refine kops_nilchunk 3 (by decide) ?_
      refine kd (v_bd [] [.int .i64 0, .slice none 0 0] Try.zeroValue28 Try.runUnderlying28 pl_28) ?_
      refine kk (s_B (e' := [.int .i64 0, .slice none 0 0]) Try.sizeOf28 ?_)
      refine kd (v_as) ?_
      refine kops_nil ?_
      refine kn_then ?_
      refine kwp_ret ?_
      refine kr_then ?_
      obtain rfl := e_some h18
      refine rc1 Try.isAgg28 Try.sizeOf28 [⟨.slice none 0 0, 3, ([] : List Way).map encWay⟩] ?_
      exact ⟨none, 0, rfl, rfl⟩
    ·
      replace h18 := e_f h18 hc19
      refine kwp_skip ?_
      refine kn_then ?_
      refine kwp_seq ?_
      refine kwp_region ?_
      refine kd (v_fb fa_33_0) ?_
      refine kd (v_ldb Try.isAgg3) ?_
      refine kops_nilchunk 5 (by decide) ?_
      refine kd (v_bd [(0, _)] [_, .slice none 0 0] Try.zeroValue33 Try.runUnderlying33 pl_33) ?_
      refine kops_nilchunk 5 (by decide) ?_
      refine kk (n_alloc (e := [.int .i64 0, .slice none 0 0]) 2 Try.zeroValue33 (fun p6_20 => ?_))
      refine kk (s_B (e' := [.int .i64 s0.st, .slice none 0 0]) Try.sizeOf33 ?_)
      refine kops_nil ?_
      refine kn_then ?_
      refine kwp_seq ?_
      refine kwp_seq ?_
      refine kwp_region ?_
      refine kd (v_mv) ?_
      refine kd (v_len Try.runUnderlying40) ?_
      refine kd (v_mv) ?_
      refine kops_nil ?_
      refine kn_then ?_
      refine kwp_cutE (inv := [(2, .pointer (some p2_3)), (4, .pointer (some p4_4)), (6, .pointer (some p6_20))]) (fun (z : List Leg) (y : Option Addr × Nat × Nat) => []) (fun (z : List Leg) (y : Option Addr × Nat × Nat) => [⟨.pointer (some p6_20), 2, [[.int .i64 s0.st, .slice y.1 y.2.1 y.2.2]]⟩, ⟨.slice y.1 y.2.1 y.2.2, 5, z.map encLeg⟩, ⟨.pointer (some p2_3), 2, [[.int .i64 s0.st, .slice s01a s0.legs.length s01c]]⟩, ⟨.pointer (some p4_4), 2, [[.int .i64 0, .slice none 0 0]]⟩, ⟨.slice none 0 0, 3, ([] : List Way).map encWay⟩]) (fun _ _ => True) h18 ?_ ?_
      · intro t24 h22
        refine kwp_block ?_
        refine kwp_loopE (inv := [(2, .pointer (some p2_3)), (4, .pointer (some p4_4)), (6, .pointer (some p6_20)), (24, .slice tree0a tree0.length tree0c), (25, .int .i64 ((tree0.length : Nat) : Int))]) (fun (z : Int × List Leg) (y : Option Addr × Nat × Nat) => [(26, .int .i64 z.1)]) (fun (z : Int × List Leg) (y : Option Addr × Nat × Nat) => [⟨.pointer (some p6_20), 2, [[.int .i64 s0.st, .slice y.1 y.2.1 y.2.2]]⟩, ⟨.slice y.1 y.2.1 y.2.2, 5, z.2.map encLeg⟩, ⟨.pointer (some p2_3), 2, [[.int .i64 s0.st, .slice s01a s0.legs.length s01c]]⟩, ⟨.pointer (some p4_4), 2, [[.int .i64 0, .slice none 0 0]]⟩, ⟨.slice none 0 0, 3, ([] : List Way).map encWay⟩]) (fun _ _ => True) h22 ⟨(none, 0, 0), hd_mk trivial⟩ ?_
        intro z29 y30 b27 _ h28
        obtain ⟨x25, legs26⟩ := z29
        obtain ⟨legs26a, legs26n, legs26c⟩ := y30
        refine k_len (c := legs26c) (fun hl31 => ?_)
        subst hl31
        unfold p_impl_TreeFix_L0 at h28
        refine kwp_seq ?_
        refine kwp_region ?_
        refine kd (v_cmp) ?_
        refine kops_nil ?_
        refine kn_then ?_
        refine kwp_seq ?_
        refine kwp_cond rfl (fun hc32 => ?_) (fun hc32 => ?_)
        ·
          replace h28 := e_t h28 hc32
          refine kwp_skip ?_
          refine kn_then ?_
          refine kwp_seq ?_
          refine kwp_block ?_
          refine kwp_seq ?_
          refine kwp_region ?_
          obtain ⟨j33, ej33, nj33, h28⟩ := e_idx h28
          refine kd (v_ia ej33 nj33 Try.runUnderlying40 Try.sizeOf3) ?_
          refine kd (v_ldf nj33 Try.isAgg3) ?_
          refine kd (v_as) ?_
          refine kops_nil ?_
          refine kn_then ?_
          obtain ⟨j34, ej34, nj34, h28⟩ := e_idx h28
          obtain ⟨hz36, h28⟩ := e_need h28
          refine kwp_tree (.quiet 0 (.quiet 1 (.quiet 2 (.quiet 3 (.quiet 4 (.quiet 5 (.quiet 6 (.one 7 (.one 8 (.quiet 9 (.one 10 .stop))))))))))) [10] [⟨.pointer (some p2_3), 2, [[.int .i64 s0.st, .slice s01a s0.legs.length s01c]]⟩, ⟨.pointer (some p6_20), 2, [[.int .i64 s0.st, .slice legs26a legs26.length legs26c]]⟩] drawMixed (by kernel_rfl) nopan (by (repeat (first | exact Sub.refl _ | exact Sub.nil _ | refine Sub.chunk (by repeat (first | exact Pick.here | apply Pick.there | apply Pick.seg)) (by rfl) ?_ | refine Sub.seg (by repeat (first | exact PickSeg.here | exact PickSeg.all | apply PickSeg.there | apply PickSeg.seg)) ?_ | exact Sub.seg0 (by repeat (first | exact PickSeg.here | exact PickSeg.all | apply PickSeg.there | apply PickSeg.seg)) | apply Sub.assoc))) ?_
          refine kt_d rfl rfl rfl (v_fb fa_33_1) ?_
          refine kt_d rfl rfl rfl (v_ldb Try.isAgg31) ?_
          refine kt_d rfl rfl rfl (v_fb fa_33_1) ?_
          refine kt_d rfl rfl rfl (v_ldb Try.isAgg31) ?_
          refine kt_d rfl rfl rfl (v_mv) ?_
          refine kt_d rfl rfl rfl (v_ia ej34 nj34 Try.runUnderlying31 Try.sizeOf58) ?_
          refine kt_d rfl rfl rfl (v_lda (e := [_, _, _, _, _]) nj34 Try.isAgg58 Try.sizeOf58) ?_
          refine kt_one ?_
          refine kl_k rfl rfl (n_lit (enc := encLeg) [_] ([gx s0.legs j34] : List Leg) Try.runUnderlying31 Try.sizeOf58 Try.zeroValue58 (fun a35 => ?_))
          refine ⟨.inl (by (repeat (first | exact Sub.refl _ | exact Sub.nil _ | refine Sub.chunk (by repeat (first | exact Pick.here | apply Pick.there | apply Pick.seg)) (by rfl) ?_ | refine Sub.seg (by repeat (first | exact PickSeg.here | exact PickSeg.all | apply PickSeg.there | apply PickSeg.seg)) ?_ | exact Sub.seg0 (by repeat (first | exact PickSeg.here | exact PickSeg.all | apply PickSeg.there | apply PickSeg.seg)) | apply Sub.assoc))), ?_⟩
          refine kt_one ?_
          refine kl_k rfl rfl (n_app (enc := encLeg) ok_encLeg hz36 Try.underlying31 Try.type58 (by decide) (fun a37 c38 => ?_))
          refine ⟨.inl (by (repeat (first | exact Sub.refl _ | exact Sub.nil _ | refine Sub.chunk (by repeat (first | exact Pick.here | apply Pick.there | apply Pick.seg)) (by rfl) ?_ | refine Sub.seg (by repeat (first | exact PickSeg.here | exact PickSeg.all | apply PickSeg.there | apply PickSeg.seg)) ?_ | exact Sub.seg0 (by repeat (first | exact PickSeg.here | exact PickSeg.all | apply PickSeg.there | apply PickSeg.seg)) | apply Sub.assoc))), ?_⟩
          refine kt_d rfl rfl rfl (v_fb fa_33_1) ?_
          refine kt_one ?_
          refine kl_k rfl rfl (s_b (e' := [.int .i64 s0.st, .slice a37 ((legs26 ++ ([gx s0.legs j34] : List Leg)).length) c38]) Try.sizeOf31 ?_)
          refine ⟨.inr ⟨by decide, rfl⟩, ?_⟩
          refine kt_nil ?_
          refine kn_block ?_
          refine kn_then ?_
          refine kwp_region ?_
          refine kd (v_add) ?_
          refine kd (v_mv) ?_
          refine kops_nil ?_
          refine kn_then ?_
          obtain rfl := e_some h28
          exact ⟨_, (a37, (legs26 ++ ([gx s0.legs j34] : List Leg)).length, c38), rfl, hd_mk trivial⟩
        ·
          replace h28 := e_f h28 hc32
          refine kwp_exit ?_
          refine ke_then ?_
          obtain rfl := e_some h28
          refine k_out ?_ rfl
          rintro rfl
          refine ke_block ?_
          exact ⟨(legs26a, legs26.length, legs26c), hd_mk trivial⟩
      · intro legs21 y40 _ h41
        obtain ⟨legs21a, legs21n, legs21c⟩ := y40
        refine k_len (c := legs21c) (fun hl42 => ?_)
        subst hl42
        refine kwp_seq ?_
        refine kwp_region ?_
        refine kd (v_fb fa_33_0) ?_
        refine kd (v_ldb Try.isAgg3) ?_
        obtain ⟨j43, ej43, nj43, h41⟩ := e_sized h41
        refine kk (n_make (enc := encWay) (⟨0, 0, 0⟩ : Way) ej43 nj43 Try.underlying26 Try.type55 (by decide) (fun a44 => ?_))
        refine kd (v_as) ?_
        refine kops_nil ?_
        refine kn_then ?_
        refine kwp_seq ?_
        refine kwp_seq ?_
        refine kwp_region ?_
        refine kd (v_mv) ?_
        refine kd (v_len Try.runUnderlying26) ?_
        refine kd (v_mv) ?_
        refine kops_nil ?_
        refine kn_then ?_
        refine kwp_cutE (inv := [(4, .pointer (some p4_4)), (9, .slice (some a44) j43 j43)]) (fun (z : List Way) (y : Unit) => []) (fun (z : List Way) (y : Unit) => [⟨.slice (some a44) j43 j43, 3, z.map encWay⟩, ⟨.pointer (some p4_4), 2, [[.int .i64 0, .slice none 0 0]]⟩, ⟨.slice none 0 0, 3, ([] : List Way).map encWay⟩]) (fun _ _ => True) h41 ?_ ?_
        · intro t48 h46
          refine kwp_block ?_
          refine kwp_loopE (inv := [(4, .pointer (some p4_4)), (6, .pointer (some p6_20)), (9, .slice (some a44) j43 j43), (45, .int .i64 ((j43 : Nat) : Int))]) (fun (z : Int × List Way) (y : Unit) => [(46, .int .i64 z.1)]) (fun (z : Int × List Way) (y : Unit) => [⟨.slice (some a44) j43 j43, 3, z.2.map encWay⟩, ⟨.pointer (some p4_4), 2, [[.int .i64 0, .slice none 0 0]]⟩, ⟨.slice none 0 0, 3, ([] : List Way).map encWay⟩, ⟨.pointer (some p6_20), 2, [[.int .i64 s0.st, .slice legs21a legs21.length legs21c]]⟩, ⟨.slice legs21a (legs21.length) legs21c, 5, legs21.map encLeg⟩]) (fun _ _ => True) h46 ⟨(), hd_mk trivial⟩ ?_
          intro z53 y54 b51 _ h52
          obtain ⟨x49, l50⟩ := z53
          unfold p_impl_TreeFix_L1 at h52
          refine kwp_seq ?_
          refine kwp_region ?_
          refine kd (v_cmp) ?_
          refine kops_nil ?_
          refine kn_then ?_
          refine kwp_seq ?_
          refine kwp_cond rfl (fun hc55 => ?_) (fun hc55 => ?_)
          ·
            replace h52 := e_t h52 hc55
            refine kwp_skip ?_
            refine kn_then ?_
            refine kwp_seq ?_
            refine kwp_block ?_
            refine kwp_seq ?_
            refine kwp_region ?_
            refine kd (v_mv) ?_
            refine kd (v_as) ?_
            refine kops_nil ?_
            refine kn_then ?_
            refine kwp_region ?_
            refine kd (v_mv) ?_
            refine kd (v_mv) ?_
            refine kd (v_ldB Try.isAgg33 Try.sizeOf33) ?_
            refine kd (v_mv) ?_
            obtain ⟨⟨v57, v58⟩, hv56, h52⟩ := e_bind h52
            refine kk (n_call Try.call41 (w_impl_TreePlace legs21a legs21.length legs21c hv56) ?_)
            rintro _ _ ⟨rfl, rfl⟩
            refine kd (v_mv) ?_
            refine kd (v_ex) ?_
            refine kd (v_ex) ?_
            obtain ⟨j61, ej61, nj61, h52⟩ := e_idx h52
            refine kd (v_ia ej61 nj61 Try.runUnderlying26 Try.sizeOf55) ?_
            refine kk (s_a v57 nj61 Try.sizeOf55 ?_ (ok_encWay _))
            refine kops_nil ?_
            refine kn_block ?_
            refine kn_then ?_
            refine kwp_region ?_
            refine kd (v_add) ?_
            refine kd (v_mv) ?_
            refine kops_nil ?_
            refine kn_then ?_
            obtain rfl := e_some h52
            exact ⟨_, (), rfl, hd_mk trivial⟩
          ·
            replace h52 := e_f h52 hc55
            refine kwp_exit ?_
            refine ke_then ?_
            obtain rfl := e_some h52
            refine k_out ?_ rfl
            rintro rfl
            refine ke_block ?_
            exact ⟨(), hd_mk trivial⟩
        · intro l45 y63 _ h64
          refine kn_then ?_
          refine kwp_seq ?_
          refine kwp_region ?_
          refine kd (v_mv) ?_
          refine kd (v_bd [(0, _), (1, _)] [_, _] Try.zeroValue28 Try.runUnderlying28 pl_28) ?_
          refine kk (s_B (e' := [.int .i64 1, .slice (some a44) j43 j43]) Try.sizeOf28 ?_)
          refine kd (v_as) ?_
          refine kops_nil ?_
          refine kn_then ?_
          refine k_len (c := j43) (fun hl65 => ?_)
          subst hl65
          refine kwp_ret ?_
          obtain rfl := e_some h64
          refine rc1 Try.isAgg28 Try.sizeOf28 [⟨.slice (some a44) (l45.length) (l45.length), 3, l45.map encWay⟩] ?_
          exact ⟨some a44, (l45.length), rfl, rfl⟩

set_option maxRecDepth 20000 in
set_option maxHeartbeats 2000000 in
theorem w_spec_TreeFix (s01a : Option Addr) (s01n : Nat) (s01c : Nat) (tree0a : Option Addr) (tree0n : Nat) (tree0c : Nat) {s0 : Survey} {tree0 : List Int} {r : Fix × Bool} (h : p_spec_TreeFix s0 tree0 = some r) :
    Triple Try.prog 15 [.agg #[.int .i64 s0.st, .slice s01a s01n s01c], .slice tree0a tree0n tree0c] [⟨.slice s01a s01n s01c, 5, s0.legs.map encLeg⟩, ⟨.slice tree0a tree0n tree0c, 1, tree0.map encI⟩] [] (fun v ch => ∃ (w01a : Option Addr) (w01c : Nat), v = .tuple #[.agg #[.int .i64 r.1.den, .slice w01a r.1.nums.length w01c], .bool r.2] ∧ ch = [⟨.slice w01a r.1.nums.length w01c, 3, r.1.nums.map encWay⟩]) := by
  refine triple_start 104 Try.func15 Try.ntmps15 rfl rfl (fun w0 => ?_)
  refine k_len (c := s01c) (fun hl1 => ?_)
  subst hl1
  refine k_len (c := tree0c) (fun hl2 => ?_)
  subst hl2
  unfold p_spec_TreeFix at h
  refine kwp_seq ?_
  refine kwp_region ?_
  refine kk (n_box (e := [.int .i64 s0.st, .slice s01a s0.legs.length s01c]) 2 (fun p2_3 => ?_))
  refine kops_nilchunk 3 (by decide) ?_
  refine kk (n_alloc (e := [.int .i64 0, .slice none 0 0]) 2 Try.zeroValue28 (fun p4_4 => ?_))
  refine kd (v_as) ?_
  refine kops_nil ?_
  refine kn_then ?_
  refine kwp_seq ?_
  refine kwp_region ?_
  refine kd (v_ldB Try.isAgg33 Try.sizeOf33) ?_
  obtain ⟨v6, hv5, h⟩ := e_bind h
  refine kk (n_call Try.call38 (w_spec_TreesAll s01a s0.legs.length s01c hv5) ?_)
  rintro _ _ ⟨q7a, q7c, q7R, rfl, hq7R, rfl⟩
  refine kd (v_as) ?_
  refine kops_nil ?_
  refine kn_then ?_
  refine kwp_seq ?_
  refine kwp_region ?_
  refine kd (v_as) ?_
  refine kops_nil ?_
  refine kn_then ?_
  refine kwp_seq ?_
  refine kwp_seq ?_
  refine kwp_region ?_
  refine kd (v_as) ?_
  refine kops_nil ?_
  refine kn_then ?_
  refine kwp_cutE (inv := [(1, .slice tree0a tree0.length tree0c), (2, .pointer (some p2_3)), (4, .pointer (some p4_4))]) (fun (z : Bool) (y : Unit) => [(7, .bool z)]) (fun (z : Bool) (y : Unit) => [⟨.pointer (some p2_3), 2, [[.int .i64 s0.st, .slice s01a s0.legs.length s01c]]⟩, ⟨.pointer (some p4_4), 2, [[.int .i64 0, .slice none 0 0]]⟩, ⟨.slice none 0 0, 3, ([] : List Way).map encWay⟩]) (fun _ _ => True) h ?_ ?_
  · intro t11 h9
    refine kwp_block ?_
    refine kwp_loopE (inv := [(1, .slice tree0a tree0.length tree0c), (2, .pointer (some p2_3)), (4, .pointer (some p4_4)), (6, .slice q7a v6.length q7c)]) (fun (z : Bool × Int) (y : Unit) => [(7, .bool z.1), (8, .int .i64 z.2)]) (fun (z : Bool × Int) (y : Unit) => (⟨.pointer (some p2_3), 2, [[.int .i64 s0.st, .slice s01a s0.legs.length s01c]]⟩ :: ⟨.pointer (some p4_4), 2, [[.int .i64 0, .slice none 0 0]]⟩ :: ⟨.slice none 0 0, 3, ([] : List Way).map encWay⟩ :: ⟨.slice q7a v6.length q7c, 1, q7R.map encRow⟩ :: (rowsC q7R))) (fun _ _ => True) h9 ⟨(), hd_mk trivial⟩ ?_
    intro z16 y17 b14 _ h15
    obtain ⟨found12, k13⟩ := z16
    unfold p_spec_TreeFix_L0 at h15
    refine kwp_seq ?_
    refine kwp_seq ?_
    refine kwp_region ?_
    refine kd (v_mv) ?_
    refine kd (v_mv) ?_
    refine kd (v_len Try.runUnderlying49) ?_
    refine kd (v_cmp) ?_
    refine kops_nil ?_
    refine kn_then ?_
    refine kwp_cond rfl (fun hc18 => ?_) (fun hc18 => ?_)
    ·
      replace h15 := e_t h15 hc18
      refine kwp_skip ?_
      refine kn_then ?_
      refine kwp_seq ?_
      refine kwp_block ?_
      refine kwp_seq ?_
      refine kwp_region ?_
      refine kd (v_mv) ?_
      refine kd (v_mv) ?_
      obtain ⟨j19, ej19, nj19, h15⟩ := e_idx h15
      refine kd (v_ia ej19 nj19 Try.runUnderlying49 Try.sizeOf40) ?_
      refine kd (v_ldr nj19 hq7R Try.isAgg40) ?_
      refine kd (v_len Try.runUnderlying40) ?_
      refine kd (v_mv) ?_
      refine kd (v_len Try.runUnderlying40) ?_
      refine kd (v_cmp) ?_
      refine kd (v_as) ?_
      refine kops_nil ?_
      refine kn_then ?_
      refine kwp_seq ?_
      refine kwp_seq ?_
      refine kwp_region ?_
      refine kd (v_as) ?_
      refine kops_nil ?_
      refine kn_then ?_
      refine kwp_cutE (inv := [(1, .slice tree0a tree0.length tree0c), (2, .pointer (some p2_3)), (4, .pointer (some p4_4)), (6, .slice q7a v6.length q7c), (7, .bool found12), (8, .int .i64 k13)]) (fun (z : Bool) (y : Unit) => [(9, .bool z)]) (fun (z : Bool) (y : Unit) => (⟨.pointer (some p2_3), 2, [[.int .i64 s0.st, .slice s01a s0.legs.length s01c]]⟩ :: ⟨.pointer (some p4_4), 2, [[.int .i64 0, .slice none 0 0]]⟩ :: ⟨.slice none 0 0, 3, ([] : List Way).map encWay⟩ :: ⟨.slice q7a v6.length q7c, 1, q7R.map encRow⟩ :: (rowsC q7R))) (fun _ _ => True) h15 ?_ ?_
      · intro t23 h21
        refine kwp_block ?_
        refine kwp_loopE (inv := [(1, .slice tree0a tree0.length tree0c), (2, .pointer (some p2_3)), (4, .pointer (some p4_4)), (6, .slice q7a v6.length q7c), (7, .bool found12), (8, .int .i64 k13)]) (fun (z : Bool × Int) (y : Unit) => [(9, .bool z.1), (10, .int .i64 z.2)]) (fun (z : Bool × Int) (y : Unit) => (⟨.pointer (some p2_3), 2, [[.int .i64 s0.st, .slice s01a s0.legs.length s01c]]⟩ :: ⟨.pointer (some p4_4), 2, [[.int .i64 0, .slice none 0 0]]⟩ :: ⟨.slice none 0 0, 3, ([] : List Way).map encWay⟩ :: ⟨.slice q7a v6.length q7c, 1, q7R.map encRow⟩ :: (rowsC q7R))) (fun _ _ => True) h21 ⟨(), hd_mk trivial⟩ ?_
        intro z28 y29 b26 _ h27
        obtain ⟨same24, j25⟩ := z28
        unfold p_spec_TreeFix_L1 at h27
        refine kwp_seq ?_
        refine kwp_seq ?_
        refine kwp_cutE (inv := [(1, .slice tree0a tree0.length tree0c), (2, .pointer (some p2_3)), (4, .pointer (some p4_4)), (6, .slice q7a v6.length q7c), (7, .bool found12), (8, .int .i64 k13), (9, .bool same24), (10, .int .i64 j25)]) (fun (z : Bool) (y : Unit) => [(40, .bool z)]) (fun (z : Bool) (y : Unit) => (⟨.pointer (some p2_3), 2, [[.int .i64 s0.st, .slice s01a s0.legs.length s01c]]⟩ :: ⟨.pointer (some p4_4), 2, [[.int .i64 0, .slice none 0 0]]⟩ :: ⟨.slice none 0 0, 3, ([] : List Way).map encWay⟩ :: ⟨.slice q7a v6.length q7c, 1, q7R.map encRow⟩ :: (rowsC q7R))) (fun _ _ => True) h27 ?_ ?_
        · intro t33 h31
          refine kwp_region ?_
          refine kd (v_mv) ?_
          refine kd (v_mv) ?_
          refine kd (v_len Try.runUnderlying40) ?_
          refine kd (v_cmp) ?_
          refine kd (v_mv) ?_
          refine kops_split 38 rfl (fun hb34 => ?_) (fun hb34 => ?_)
          ·
            replace h31 := e_t h31 hb34
            refine kgd hb34 (v_mv) ?_
            refine kd (v_pt hb34) ?_
            refine kops_nil ?_
            refine kn_then ?_
            obtain rfl := e_some h31
            exact ⟨(), hd_mk trivial⟩
          ·
            replace h31 := e_f h31 hb34
            refine kskip hb34 ?_
            refine kd (v_pf hb34) ?_
            refine kops_nil ?_
            refine kn_then ?_
            obtain rfl := e_some h31
            exact ⟨(), hd_mk trivial⟩
        · intro x30 y36 _ h37
          refine kn_then ?_
          refine kwp_cond rfl (fun hc38 => ?_) (fun hc38 => ?_)
          ·
            replace h37 := e_t h37 hc38
            refine kwp_skip ?_
            refine kn_then ?_
            refine kwp_seq ?_
            refine kwp_block ?_
            obtain ⟨j39, ej39, nj39, h37⟩ := e_idx h37
            obtain ⟨j40, ej40, nj40, h37⟩ := e_idx h37
            obtain ⟨j41, ej41, nj41, h37⟩ := e_idx h37
            refine kwp_tree (.quiet 0 (.quiet 1 (.quiet 2 (.quiet 3 (.quiet 4 (.quiet 5 (.quiet 6 (.quiet 7 (.quiet 8 (.quiet 9 (.quiet 10 (.quiet 11 (.quiet 12 .stop))))))))))))) [] (⟨.slice q7a v6.length q7c, 1, q7R.map encRow⟩ :: (rowsC q7R)) drawMixed (by kernel_rfl) nopan (by (repeat (first | exact Sub.refl _ | exact Sub.nil _ | refine Sub.chunk (by repeat (first | exact Pick.here | apply Pick.there | apply Pick.seg)) (by rfl) ?_ | refine Sub.seg (by repeat (first | exact PickSeg.here | exact PickSeg.all | apply PickSeg.there | apply PickSeg.seg)) ?_ | exact Sub.seg0 (by repeat (first | exact PickSeg.here | exact PickSeg.all | apply PickSeg.there | apply PickSeg.seg)) | apply Sub.assoc))) ?_
            refine kt_d rfl rfl rfl (v_mv) ?_
            refine kt_d rfl rfl rfl (v_mv) ?_
            refine kt_d rfl rfl rfl (v_ia ej39 nj39 Try.runUnderlying49 Try.sizeOf40) ?_
            refine kt_d rfl rfl rfl (v_ldr nj39 hq7R Try.isAgg40) ?_
            refine kt_d rfl rfl rfl (v_mv) ?_
            refine kt_d rfl rfl rfl (v_ia ej40 nj40 Try.runUnderlying40 Try.sizeOf3 (hm := by repeat (first | exact mr hq7R (by first | exact nj39 | (simpa using nj39) | omega | (simp only [List.length_set]; omega)) | exact mr0 hq7R (by first | exact nj39 | (simpa using nj39) | omega | (simp only [List.length_set]; omega)) | apply mt | apply mas | apply ms))) ?_
            refine kt_d rfl rfl rfl (v_ldf nj40 Try.isAgg3 (hm := by repeat (first | exact mr hq7R (by first | exact nj39 | (simpa using nj39) | omega | (simp only [List.length_set]; omega)) | exact mr0 hq7R (by first | exact nj39 | (simpa using nj39) | omega | (simp only [List.length_set]; omega)) | apply mt | apply mas | apply ms))) ?_
            refine kt_d rfl rfl rfl (v_mv) ?_
            refine kt_d rfl rfl rfl (v_mv) ?_
            refine kt_d rfl rfl rfl (v_ia ej41 nj41 Try.runUnderlying40 Try.sizeOf3) ?_
            refine kt_d rfl rfl rfl (v_ldf nj41 Try.isAgg3) ?_
            refine kt_d rfl rfl rfl (v_cmp) ?_
            refine kt_d rfl rfl rfl (v_as) ?_
            refine kt_nil ?_
            refine kn_block ?_
            refine kn_then ?_
            refine kwp_region ?_
            refine kd (v_mv) ?_
            refine kd (v_add) ?_
            refine kd (v_as) ?_
            refine kops_nil ?_
            refine kn_then ?_
            obtain rfl := e_some h37
            exact ⟨_, (), rfl, hd_mk trivial⟩
          ·
            replace h37 := e_f h37 hc38
            refine kwp_exit ?_
            refine ke_then ?_
            obtain rfl := e_some h37
            refine k_out ?_ rfl
            rintro rfl
            refine ke_block ?_
            exact ⟨(), hd_mk trivial⟩
      · intro same20 y43 _ h44
        refine kn_then ?_
        refine kwp_region ?_
        refine kd (v_mv) ?_
        refine kd (v_mv) ?_
        refine kops_split 56 rfl (fun hb45 => ?_) (fun hb45 => ?_)
        ·
          replace h44 := e_t h44 hb45
          refine kskip hb45 ?_
          refine kd (v_pt hb45) ?_
          refine kd (v_as) ?_
          refine kops_nil ?_
          refine kn_block ?_
          refine kn_then ?_
          refine kwp_region ?_
          refine kd (v_mv) ?_
          refine kd (v_add) ?_
          refine kd (v_as) ?_
          refine kops_nil ?_
          refine kn_then ?_
          obtain rfl := e_some h44
          exact ⟨_, (), rfl, hd_mk trivial⟩
        ·
          replace h44 := e_f h44 hb45
          refine kgd hb45 (v_mv) ?_
          refine kd (v_pf hb45) ?_
          refine kd (v_as) ?_
          refine kops_nil ?_
          refine kn_block ?_
          refine kn_then ?_
          refine kwp_region ?_
          refine kd (v_mv) ?_
          refine kd (v_add) ?_
          refine kd (v_as) ?_
          refine kops_nil ?_
          refine kn_then ?_
          obtain rfl := e_some h44
          exact ⟨_, (), rfl, hd_mk trivial⟩
    ·
      replace h15 := e_f h15 hc18
      refine kwp_exit ?_
      refine ke_then ?_
      obtain rfl := e_some h15
      refine k_out ?_ rfl
      rintro rfl
      refine ke_block ?_
      exact ⟨(), hd_mk trivial⟩
  · intro found8 y47 _ h48
    refine kn_then ?_
    refine kwp_seq ?_
    refine kwp_seq ?_
    refine kwp_region ?_
    refine kd (v_mv) ?_
    refine kd (v_not) ?_
    refine kops_nil ?_
    refine kn_then ?_
    refine kwp_cond rfl (fun hc49 => ?_) (fun hc49 => ?_)
    ·
      replace h48 := e_t h48 hc49
      refine kwp_seq ?_
      refine kwp_region ?_
      refine kops_nilchunk 3 (by decide) ?_
      refine kd (v_bd [] [.int .i64 0, .slice none 0 0] Try.zeroValue28 Try.runUnderlying28 pl_28) ?_
      refine kk (s_B (e' := [.int .i64 0, .slice none 0 0]) Try.sizeOf28 ?_)
      refine kd (v_as) ?_
      refine kops_nil ?_
      refine kn_then ?_
      refine kwp_ret ?_
      refine kr_then ?_
      obtain rfl := e_some h48
      refine rc1 Try.isAgg28 Try.sizeOf28 [⟨.slice none 0 0, 3, ([] : List Way).map encWay⟩] ?_
      exact ⟨none, 0, rfl, rfl⟩
    ·
      replace h48 := e_f h48 hc49
      refine kwp_skip ?_
      refine kn_then ?_
      refine kwp_seq ?_
      refine kwp_region ?_
      refine kk (n_lit (enc := encLeg) [] ([] : List Leg) Try.runUnderlying31 Try.sizeOf58 Try.zeroValue58 (fun a50 => ?_))
      refine kd (v_as) ?_
      refine kops_nil ?_
      refine kn_then ?_
      refine kwp_seq ?_
      refine kwp_seq ?_
      refine kwp_region ?_
      refine kd (v_as) ?_
      refine kops_nil ?_
      refine kn_then ?_
      refine kwp_cutE (inv := [(2, .pointer (some p2_3)), (4, .pointer (some p4_4))]) (fun (z : List Leg) (y : Option Addr × Nat × Nat) => [(11, .slice y.1 y.2.1 y.2.2)]) (fun (z : List Leg) (y : Option Addr × Nat × Nat) => [⟨.slice y.1 y.2.1 y.2.2, 5, z.map encLeg⟩, ⟨.pointer (some p2_3), 2, [[.int .i64 s0.st, .slice s01a s0.legs.length s01c]]⟩, ⟨.pointer (some p4_4), 2, [[.int .i64 0, .slice none 0 0]]⟩, ⟨.slice none 0 0, 3, ([] : List Way).map encWay⟩]) (fun _ _ => True) h48 ?_ ?_
      · intro t54 h52
        refine kwp_block ?_
        refine kwp_loopE (inv := [(1, .slice tree0a tree0.length tree0c), (2, .pointer (some p2_3)), (4, .pointer (some p4_4))]) (fun (z : List Leg × Int) (y : Option Addr × Nat × Nat) => [(11, .slice y.1 y.2.1 y.2.2), (12, .int .i64 z.2)]) (fun (z : List Leg × Int) (y : Option Addr × Nat × Nat) => [⟨.slice y.1 y.2.1 y.2.2, 5, z.1.map encLeg⟩, ⟨.pointer (some p2_3), 2, [[.int .i64 s0.st, .slice s01a s0.legs.length s01c]]⟩, ⟨.pointer (some p4_4), 2, [[.int .i64 0, .slice none 0 0]]⟩, ⟨.slice none 0 0, 3, ([] : List Way).map encWay⟩]) (fun _ _ => True) h52 ⟨(some a50, 0, 0), hd_mk trivial⟩ ?_
        intro z59 y60 b57 _ h58
        obtain ⟨legs55, k56⟩ := z59
        obtain ⟨legs55a, legs55n, legs55c⟩ := y60
        refine k_len (c := legs55c) (fun hl61 => ?_)
        subst hl61
        unfold p_spec_TreeFix_L2 at h58
        refine kwp_seq ?_
        refine kwp_seq ?_
        refine kwp_region ?_
        refine kd (v_mv) ?_
        refine kd (v_mv) ?_
        refine kd (v_len Try.runUnderlying40) ?_
        refine kd (v_cmp) ?_
        refine kops_nil ?_
        refine kn_then ?_
        refine kwp_cond rfl (fun hc62 => ?_) (fun hc62 => ?_)
        ·
          replace h58 := e_t h58 hc62
          refine kwp_skip ?_
          refine kn_then ?_
          refine kwp_seq ?_
          refine kwp_block ?_
          obtain ⟨j63, ej63, nj63, h58⟩ := e_idx h58
          obtain ⟨j64, ej64, nj64, h58⟩ := e_idx h58
          obtain ⟨hz66, h58⟩ := e_need h58
          refine kwp_tree (.quiet 0 (.quiet 1 (.quiet 2 (.quiet 3 (.quiet 4 (.quiet 5 (.quiet 6 (.quiet 7 (.quiet 8 (.one 9 (.one 10 (.quiet 11 .stop)))))))))))) [] [⟨.pointer (some p2_3), 2, [[.int .i64 s0.st, .slice s01a s0.legs.length s01c]]⟩] drawMixed (by kernel_rfl) nopan (by (repeat (first | exact Sub.refl _ | exact Sub.nil _ | refine Sub.chunk (by repeat (first | exact Pick.here | apply Pick.there | apply Pick.seg)) (by rfl) ?_ | refine Sub.seg (by repeat (first | exact PickSeg.here | exact PickSeg.all | apply PickSeg.there | apply PickSeg.seg)) ?_ | exact Sub.seg0 (by repeat (first | exact PickSeg.here | exact PickSeg.all | apply PickSeg.there | apply PickSeg.seg)) | apply Sub.assoc))) ?_
          refine kt_d rfl rfl rfl (v_mv) ?_
          refine kt_d rfl rfl rfl (v_fb fa_33_1) ?_
          refine kt_d rfl rfl rfl (v_ldb Try.isAgg31) ?_
          refine kt_d rfl rfl rfl (v_mv) ?_
          refine kt_d rfl rfl rfl (v_mv) ?_
          refine kt_d rfl rfl rfl (v_ia ej63 nj63 Try.runUnderlying40 Try.sizeOf3) ?_
          refine kt_d rfl rfl rfl (v_ldf nj63 Try.isAgg3) ?_
          refine kt_d rfl rfl rfl (v_ia ej64 nj64 Try.runUnderlying31 Try.sizeOf58) ?_
          refine kt_d rfl rfl rfl (v_lda (e := [_, _, _, _, _]) nj64 Try.isAgg58 Try.sizeOf58) ?_
          refine kt_one ?_
          refine kl_k rfl rfl (n_lit (enc := encLeg) [_] ([gx s0.legs j64] : List Leg) Try.runUnderlying31 Try.sizeOf58 Try.zeroValue58 (fun a65 => ?_))
          refine ⟨.inl (by (repeat (first | exact Sub.refl _ | exact Sub.nil _ | refine Sub.chunk (by repeat (first | exact Pick.here | apply Pick.there | apply Pick.seg)) (by rfl) ?_ | refine Sub.seg (by repeat (first | exact PickSeg.here | exact PickSeg.all | apply PickSeg.there | apply PickSeg.seg)) ?_ | exact Sub.seg0 (by repeat (first | exact PickSeg.here | exact PickSeg.all | apply PickSeg.there | apply PickSeg.seg)) | apply Sub.assoc))), ?_⟩
          refine kt_one ?_
          refine kl_k rfl rfl (n_app (enc := encLeg) ok_encLeg hz66 Try.underlying31 Try.type58 (by decide) (fun a67 c68 => ?_))
          refine ⟨.inl (by (repeat (first | exact Sub.refl _ | exact Sub.nil _ | refine Sub.chunk (by repeat (first | exact Pick.here | apply Pick.there | apply Pick.seg)) (by rfl) ?_ | refine Sub.seg (by repeat (first | exact PickSeg.here | exact PickSeg.all | apply PickSeg.there | apply PickSeg.seg)) ?_ | exact Sub.seg0 (by repeat (first | exact PickSeg.here | exact PickSeg.all | apply PickSeg.there | apply PickSeg.seg)) | apply Sub.assoc))), ?_⟩
          refine kt_d rfl rfl rfl (v_as) ?_
          refine kt_nil ?_
          refine kn_block ?_
          refine kn_then ?_
          refine kwp_region ?_
          refine kd (v_mv) ?_
          refine kd (v_add) ?_
          refine kd (v_as) ?_
          refine kops_nil ?_
          refine kn_then ?_
          obtain rfl := e_some h58
          exact ⟨_, (a67, (legs55 ++ ([gx s0.legs j64] : List Leg)).length, c68), rfl, hd_mk trivial⟩
        ·
          replace h58 := e_f h58 hc62
          refine kwp_exit ?_
          refine ke_then ?_
          obtain rfl := e_some h58
          refine k_out ?_ rfl
          rintro rfl
          refine ke_block ?_
          exact ⟨(legs55a, legs55.length, legs55c), hd_mk trivial⟩
      · intro legs51 y70 _ h71
        obtain ⟨legs51a, legs51n, legs51c⟩ := y70
        refine k_len (c := legs51c) (fun hl72 => ?_)
        subst hl72
        refine kwp_seq ?_
        refine kwp_region ?_
        refine kd (v_fb fa_33_0) ?_
        refine kd (v_ldb Try.isAgg3) ?_
        refine kd (v_mv) ?_
        refine kd (v_bd [(0, _), (1, _)] [_, _] Try.zeroValue33 Try.runUnderlying33 pl_33) ?_
        refine kops_nilchunk 5 (by decide) ?_
        refine kk (n_alloc (e := [.int .i64 0, .slice none 0 0]) 2 Try.zeroValue33 (fun p13_73 => ?_))
        refine kk (s_B (e' := [.int .i64 s0.st, .slice legs51a legs51.length legs51c]) Try.sizeOf33 ?_)
        refine kops_nil ?_
        refine kn_then ?_
        refine kwp_seq ?_
        refine kwp_region ?_
        refine kops_nilchunk 3 (by decide) ?_
        refine kd (v_bd [(0, _)] [_, .slice none 0 0] Try.zeroValue28 Try.runUnderlying28 pl_28) ?_
        refine kops_nilchunk 3 (by decide) ?_
        refine kk (n_alloc (e := [.int .i64 0, .slice none 0 0]) 2 Try.zeroValue28 (fun p14_74 => ?_))
        refine kk (s_B (e' := [.int .i64 1, .slice none 0 0]) Try.sizeOf28 ?_)
        refine kops_nil ?_
        refine kn_then ?_
        refine kwp_seq ?_
        refine kwp_seq ?_
        refine kwp_region ?_
        refine kd (v_as) ?_
        refine kops_nil ?_
        refine kn_then ?_
        refine kwp_cutE (inv := [(4, .pointer (some p4_4)), (14, .pointer (some p14_74))]) (fun (z : List Way) (y : Option Addr × Nat × Nat) => []) (fun (z : List Way) (y : Option Addr × Nat × Nat) => [⟨.pointer (some p14_74), 2, [[.int .i64 1, .slice y.1 y.2.1 y.2.2]]⟩, ⟨.slice y.1 y.2.1 y.2.2, 3, z.map encWay⟩, ⟨.pointer (some p4_4), 2, [[.int .i64 0, .slice none 0 0]]⟩, ⟨.slice none 0 0, 3, ([] : List Way).map encWay⟩]) (fun _ _ => True) h71 ?_ ?_
        · intro t78 h76
          refine kwp_block ?_
          refine kwp_loopE (inv := [(2, .pointer (some p2_3)), (4, .pointer (some p4_4)), (13, .pointer (some p13_73)), (14, .pointer (some p14_74))]) (fun (z : Int × List Way) (y : Option Addr × Nat × Nat) => [(15, .int .i64 z.1)]) (fun (z : Int × List Way) (y : Option Addr × Nat × Nat) => [⟨.pointer (some p14_74), 2, [[.int .i64 1, .slice y.1 y.2.1 y.2.2]]⟩, ⟨.slice y.1 y.2.1 y.2.2, 3, z.2.map encWay⟩, ⟨.pointer (some p2_3), 2, [[.int .i64 s0.st, .slice s01a s0.legs.length s01c]]⟩, ⟨.pointer (some p4_4), 2, [[.int .i64 0, .slice none 0 0]]⟩, ⟨.slice none 0 0, 3, ([] : List Way).map encWay⟩, ⟨.pointer (some p13_73), 2, [[.int .i64 s0.st, .slice legs51a legs51.length legs51c]]⟩, ⟨.slice legs51a (legs51.length) legs51c, 5, legs51.map encLeg⟩]) (fun _ _ => True) h76 ⟨(none, 0, 0), hd_mk trivial⟩ ?_
          intro z83 y84 b81 _ h82
          obtain ⟨k79, nums80⟩ := z83
          obtain ⟨nums80a, nums80n, nums80c⟩ := y84
          refine k_len (c := nums80c) (fun hl85 => ?_)
          subst hl85
          unfold p_spec_TreeFix_L3 at h82
          refine kwp_seq ?_
          refine kwp_seq ?_
          refine kwp_region ?_
          refine kd (v_mv) ?_
          refine kd (v_fb fa_33_0) ?_
          refine kd (v_ldb Try.isAgg3) ?_
          refine kd (v_cmp) ?_
          refine kops_nil ?_
          refine kn_then ?_
          refine kwp_cond rfl (fun hc86 => ?_) (fun hc86 => ?_)
          ·
            replace h82 := e_t h82 hc86
            refine kwp_skip ?_
            refine kn_then ?_
            refine kwp_seq ?_
            refine kwp_block ?_
            refine kwp_seq ?_
            refine kwp_region ?_
            refine kd (v_ldB Try.isAgg33 Try.sizeOf33) ?_
            refine kd (v_mv) ?_
            obtain ⟨⟨v88, v89⟩, hv87, h82⟩ := e_bind h82
            refine kk (n_call Try.call39 (w_spec_TreePlace legs51a legs51.length legs51c hv87) ?_)
            rintro _ _ ⟨rfl, rfl⟩
            refine kd (v_mv) ?_
            refine kd (v_ex) ?_
            refine kd (v_ex) ?_
            refine kk (n_alloc (e := [.int .i64 0, .int .i64 0, .int .i64 0]) 3 Try.zeroValue55 (fun p16_92 => ?_))
            refine kk (s_B (e' := [.int .i64 v88.e, .int .i64 v88.n, .int .i64 v88.u]) Try.sizeOf55 ?_)
            refine kd (v_as) ?_
            refine kops_nil ?_
            refine kn_then ?_
            refine kwp_region ?_
            refine kd (v_fb fa_28_1) ?_
            refine kd (v_ldb Try.isAgg26) ?_
            refine kd (v_ldB Try.isAgg55 Try.sizeOf55) ?_
            refine kk (n_lit (enc := encWay) [_] ([(⟨v88.e, v88.n, v88.u⟩ : Way)] : List Way) Try.runUnderlying26 Try.sizeOf55 Try.zeroValue55 (fun a93 => ?_))
            obtain ⟨hz94, h82⟩ := e_need h82
            refine kk (n_app (enc := encWay) ok_encWay hz94 Try.underlying26 Try.type55 (by decide) (fun a95 c96 => ?_))
            refine kd (v_fb fa_28_1) ?_
            refine kk (s_b (e' := [.int .i64 1, .slice a95 ((nums80 ++ ([(⟨v88.e, v88.n, v88.u⟩ : Way)] : List Way)).length) c96]) Try.sizeOf26 ?_)
            refine kops_nil ?_
            refine kn_block ?_
            refine kn_then ?_
            refine kwp_region ?_
            refine kd (v_mv) ?_
            refine kd (v_add) ?_
            refine kd (v_as) ?_
            refine kops_nil ?_
            refine kn_then ?_
            obtain rfl := e_some h82
            exact ⟨_, (a95, (nums80 ++ ([(⟨v88.e, v88.n, v88.u⟩ : Way)] : List Way)).length, c96), rfl, hd_mk trivial⟩
          ·
            replace h82 := e_f h82 hc86
            refine kwp_exit ?_
            refine ke_then ?_
            obtain rfl := e_some h82
            refine k_out ?_ rfl
            rintro rfl
            refine ke_block ?_
            exact ⟨(nums80a, nums80.length, nums80c), hd_mk trivial⟩
        · intro nums75 y98 _ h99
          obtain ⟨nums75a, nums75n, nums75c⟩ := y98
          refine k_len (c := nums75c) (fun hl100 => ?_)
          subst hl100
          refine kwp_seq ?_
          refine kwp_region ?_
          refine kd (v_ldB Try.isAgg28 Try.sizeOf28) ?_
          refine kk (s_B (e' := [.int .i64 1, .slice nums75a nums75.length nums75c]) Try.sizeOf28 ?_)
          refine kd (v_as) ?_
          refine kops_nil ?_
          refine kn_then ?_
          refine kwp_ret ?_
          obtain rfl := e_some h99
          refine rc1 Try.isAgg28 Try.sizeOf28 [⟨.slice nums75a (nums75.length) nums75c, 3, nums75.map encWay⟩] ?_
          exact ⟨nums75a, nums75c, rfl, rfl⟩

set_option maxRecDepth 20000 in
set_option maxHeartbeats 2000000 in
theorem w_impl_TreesFix (s01a : Option Addr) (s01n : Nat) (s01c : Nat) {s0 : Survey} {r : Fix × Bool} (h : p_impl_TreesFix s0 = some r) :
    Triple Try.prog 21 [.agg #[.int .i64 s0.st, .slice s01a s01n s01c]] [⟨.slice s01a s01n s01c, 5, s0.legs.map encLeg⟩] [] (fun v ch => ∃ (w01a : Option Addr) (w01c : Nat), v = .tuple #[.agg #[.int .i64 r.1.den, .slice w01a r.1.nums.length w01c], .bool r.2] ∧ ch = [⟨.slice w01a r.1.nums.length w01c, 3, r.1.nums.map encWay⟩]) := by
  refine triple_start 61 Try.func21 Try.ntmps21 rfl rfl (fun w0 => ?_)
  refine k_len (c := s01c) (fun hl1 => ?_)
  subst hl1
  unfold p_impl_TreesFix at h
  refine kwp_seq ?_
  refine kwp_region ?_
  refine kk (n_box (e := [.int .i64 s0.st, .slice s01a s0.legs.length s01c]) 2 (fun p1_2 => ?_))
  refine kops_nilchunk 3 (by decide) ?_
  refine kk (n_alloc (e := [.int .i64 0, .slice none 0 0]) 2 Try.zeroValue28 (fun p2_3 => ?_))
  refine kd (v_as) ?_
  refine kops_nil ?_
  refine kn_then ?_
  refine kwp_seq ?_
  refine kwp_seq ?_
  refine kwp_cutE (inv := [(1, .pointer (some p1_2)), (2, .pointer (some p2_3))]) (fun (z : Bool) (y : Unit) => [(19, .bool z)]) (fun (z : Bool) (y : Unit) => [⟨.pointer (some p1_2), 2, [[.int .i64 s0.st, .slice s01a s0.legs.length s01c]]⟩, ⟨.pointer (some p2_3), 2, [[.int .i64 0, .slice none 0 0]]⟩, ⟨.slice none 0 0, 3, ([] : List Way).map encWay⟩]) (fun _ _ => True) h ?_ ?_
  · intro t7 h5
    refine kwp_region ?_
    refine kd (v_ldB Try.isAgg33 Try.sizeOf33) ?_
    obtain ⟨v9, hv8, h5⟩ := e_bind h5
    refine kk (n_call Try.call29 (w_impl_SurveyValid s01a s0.legs.length s01c hv8) ?_)
    rintro _ _ ⟨rfl, rfl⟩
    refine kd (v_not) ?_
    refine kd (v_mv) ?_
    refine kops_split 15 rfl (fun hb11 => ?_) (fun hb11 => ?_)
    ·
      replace h5 := e_t h5 hb11
      refine kskip hb11 ?_
      refine kskip hb11 ?_
      refine kskip hb11 ?_
      refine kd (v_pt hb11) ?_
      refine kops_nil ?_
      refine kn_then ?_
      obtain rfl := e_some h5
      exact ⟨(), hd_mk trivial⟩
    ·
      replace h5 := e_f h5 hb11
      refine kgd hb11 (v_ldB Try.isAgg33 Try.sizeOf33) ?_
      obtain ⟨v13, hv12, h5⟩ := e_bind h5
      refine kgk hb11 (n_call Try.call30 (w_impl_PartsMany s01a s0.legs.length s01c hv12) ?_)
      rintro _ _ ⟨rfl, rfl⟩
      refine kgd hb11 (v_cmp) ?_
      refine kd (v_pf hb11) ?_
      refine kops_nil ?_
      refine kn_then ?_
      obtain rfl := e_some h5
      exact ⟨(), hd_mk trivial⟩
  · intro x4 y16 _ h17
    refine kn_then ?_
    refine kwp_cond rfl (fun hc18 => ?_) (fun hc18 => ?_)
    ·
      replace h17 := e_t h17 hc18
      refine kwp_seq ?_
      refine kwp_region ?_
      refine kops_nilchunk 3 (by decide) ?_
      refine kd (v_bd [] [.int .i64 0, .slice none 0 0] Try.zeroValue28 Try.runUnderlying28 pl_28) ?_
      refine kk (s_B (e' := [.int .i64 0, .slice none 0 0]) Try.sizeOf28 ?_)
      refine kd (v_as) ?_
      refine kops_nil ?_
      refine kn_then ?_
      refine kwp_ret ?_
      refine kr_then ?_
      obtain rfl := e_some h17
      refine rc1 Try.isAgg28 Try.sizeOf28 [⟨.slice none 0 0, 3, ([] : List Way).map encWay⟩] ?_
      exact ⟨none, 0, rfl, rfl⟩
    ·
      replace h17 := e_f h17 hc18
      refine kwp_skip ?_
      refine kn_then ?_
      refine kwp_seq ?_
      refine kwp_region ?_
      refine kd (v_ldB Try.isAgg33 Try.sizeOf33) ?_
      obtain ⟨v20, hv19, h17⟩ := e_bind h17
      refine kk (n_call Try.call43 (w_impl_TreesAll s01a s0.legs.length s01c hv19) ?_)
      rintro _ _ ⟨q21a, q21c, q21R, rfl, hq21R, rfl⟩
      refine kd (v_as) ?_
      refine kops_nil ?_
      refine kn_then ?_
      refine kwp_seq ?_
      refine kwp_region ?_
      refine kd (v_fb fa_33_0) ?_
      refine kd (v_ldb Try.isAgg3) ?_
      obtain ⟨j22, ej22, nj22, h17⟩ := e_sized h17
      refine kk (n_make (enc := encWay) (⟨0, 0, 0⟩ : Way) ej22 nj22 Try.underlying26 Try.type55 (by decide) (fun a23 => ?_))
      refine kd (v_as) ?_
      refine kops_nil ?_
      refine kn_then ?_
      refine kwp_seq ?_
      refine kwp_seq ?_
      refine kwp_region ?_
      refine kd (v_mv) ?_
      refine kd (v_len Try.runUnderlying49) ?_
      refine kd (v_mv) ?_
      refine kops_nil ?_
      refine kn_then ?_
      refine kwp_cutE (inv := [(2, .pointer (some p2_3)), (4, .slice q21a v20.length q21c), (5, .slice (some a23) j22 j22)]) (fun (z : List Way) (y : Unit) => []) (fun (z : List Way) (y : Unit) => (⟨.slice (some a23) j22 j22, 3, z.map encWay⟩ :: ⟨.pointer (some p2_3), 2, [[.int .i64 0, .slice none 0 0]]⟩ :: ⟨.slice none 0 0, 3, ([] : List Way).map encWay⟩ :: ⟨.slice q21a v20.length q21c, 1, q21R.map encRow⟩ :: (rowsC q21R))) (fun _ _ => True) h17 ?_ ?_
      · intro t27 h25
        refine kwp_block ?_
        refine kwp_loopE (inv := [(1, .pointer (some p1_2)), (2, .pointer (some p2_3)), (4, .slice q21a v20.length q21c), (5, .slice (some a23) j22 j22), (26, .slice q21a v20.length q21c), (27, .int .i64 ((v20.length : Nat) : Int))]) (fun (z : Int × List Way) (y : Unit) => [(28, .int .i64 z.1)]) (fun (z : Int × List Way) (y : Unit) => (⟨.slice (some a23) j22 j22, 3, z.2.map encWay⟩ :: ⟨.pointer (some p1_2), 2, [[.int .i64 s0.st, .slice s01a s0.legs.length s01c]]⟩ :: ⟨.pointer (some p2_3), 2, [[.int .i64 0, .slice none 0 0]]⟩ :: ⟨.slice none 0 0, 3, ([] : List Way).map encWay⟩ :: ⟨.slice q21a v20.length q21c, 1, q21R.map encRow⟩ :: (rowsC q21R))) (fun _ _ => True) h25 ⟨(), hd_mk trivial⟩ ?_
        intro z32 y33 b30 _ h31
        obtain ⟨x28, l29⟩ := z32
        unfold p_impl_TreesFix_L0 at h31
        refine kwp_seq ?_
        refine kwp_region ?_
        refine kd (v_cmp) ?_
        refine kops_nil ?_
        refine kn_then ?_
        refine kwp_seq ?_
        refine kwp_cond rfl (fun hc34 => ?_) (fun hc34 => ?_)
        ·
          replace h31 := e_t h31 hc34
          refine kwp_skip ?_
          refine kn_then ?_
          refine kwp_seq ?_
          refine kwp_block ?_
          refine kwp_seq ?_
          refine kwp_region ?_
          obtain ⟨j35, ej35, nj35, h31⟩ := e_idx h31
          refine kd (v_ia ej35 nj35 Try.runUnderlying49 Try.sizeOf40) ?_
          refine kd (v_ldr nj35 hq21R Try.isAgg40) ?_
          refine kd (v_as) ?_
          refine kops_nil ?_
          refine kn_then ?_
          refine kwp_seq ?_
          refine kwp_region ?_
          refine kd (v_ldB Try.isAgg33 Try.sizeOf33) ?_
          refine kd (v_mv) ?_
          obtain ⟨⟨v37, v38⟩, hv36, h31⟩ := e_bind h31
          refine kk (n_call Try.call17 (w_impl_TreeFix s01a s0.legs.length s01c ((gx q21R j35).a) ((gx v20 j35).length) ((gx q21R j35).c) hv36) ?_ (hv := (Views.cons (by repeat (first | exact mh | apply mt | apply mas | apply ms)) (View.refl _) (Views.cons (by repeat (first | exact mr hq21R (by first | exact nj35 | (simpa using nj35) | omega | (simp only [List.length_set]; omega)) | exact mr0 hq21R (by first | exact nj35 | (simpa using nj35) | omega | (simp only [List.length_set]; omega)) | apply mt | apply mas | apply ms)) (View.refl _) (Views.nil _)))))
          rintro _ _ ⟨q391a, q391c, rfl, rfl⟩
          refine kd (v_mv) ?_
          refine kd (v_ex) ?_
          refine kd (v_ex) ?_
          refine kops_nilchunk 3 (by decide) ?_
          refine kk (n_alloc (e := [.int .i64 0, .slice none 0 0]) 2 Try.zeroValue28 (fun p8_41 => ?_))
          refine kk (s_B (e' := [.int .i64 v37.den, .slice q391a v37.nums.length q391c]) Try.sizeOf28 ?_)
          refine kd (v_as) ?_
          refine kops_nil ?_
          refine kn_then ?_
          refine kwp_seq ?_
          refine kwp_region ?_
          refine kd (v_fb fa_28_1) ?_
          refine kd (v_ldb Try.isAgg26) ?_
          refine kd (v_len Try.runUnderlying26) ?_
          refine kd (v_mv) ?_
          refine kops_nil ?_
          refine kn_then ?_
          refine kwp_cutE (inv := [(1, .pointer (some p1_2)), (2, .pointer (some p2_3)), (4, .slice q21a v20.length q21c), (5, .slice (some a23) j22 j22), (26, .slice q21a v20.length q21c), (27, .int .i64 ((v20.length : Nat) : Int)), (28, .int .i64 x28)]) (fun (z : List Way) (y : Unit) => []) (fun (z : List Way) (y : Unit) => (⟨.slice (some a23) j22 j22, 3, z.map encWay⟩ :: ⟨.pointer (some p1_2), 2, [[.int .i64 s0.st, .slice s01a s0.legs.length s01c]]⟩ :: ⟨.pointer (some p2_3), 2, [[.int .i64 0, .slice none 0 0]]⟩ :: ⟨.slice none 0 0, 3, ([] : List Way).map encWay⟩ :: ⟨.slice q21a v20.length q21c, 1, q21R.map encRow⟩ :: (rowsC q21R))) (fun _ _ => True) h31 ?_ ?_
          · intro t45 h43
            refine kwp_block ?_
            refine kwp_loopE (inv := [(1, .pointer (some p1_2)), (2, .pointer (some p2_3)), (4, .slice q21a v20.length q21c), (5, .slice (some a23) j22 j22), (26, .slice q21a v20.length q21c), (27, .int .i64 ((v20.length : Nat) : Int)), (28, .int .i64 x28), (39, .slice q391a v37.nums.length q391c), (40, .int .i64 ((v37.nums.length : Nat) : Int))]) (fun (z : Int × List Way) (y : Unit) => [(41, .int .i64 z.1)]) (fun (z : Int × List Way) (y : Unit) => (⟨.slice (some a23) j22 j22, 3, z.2.map encWay⟩ :: ⟨.pointer (some p1_2), 2, [[.int .i64 s0.st, .slice s01a s0.legs.length s01c]]⟩ :: ⟨.pointer (some p2_3), 2, [[.int .i64 0, .slice none 0 0]]⟩ :: ⟨.slice none 0 0, 3, ([] : List Way).map encWay⟩ :: ⟨.slice q21a v20.length q21c, 1, q21R.map encRow⟩ :: ⟨.slice q391a v37.nums.length q391c, 3, v37.nums.map encWay⟩ :: (rowsC q21R))) (fun _ _ => True) h43 ⟨(), hd_mk trivial⟩ ?_
            intro z50 y51 b48 _ h49
            obtain ⟨x46, l47⟩ := z50
            unfold p_impl_TreesFix_L1 at h49
            refine kwp_seq ?_
            refine kwp_region ?_
            refine kd (v_cmp) ?_
            refine kops_nil ?_
            refine kn_then ?_
            refine kwp_seq ?_
            refine kwp_cond rfl (fun hc52 => ?_) (fun hc52 => ?_)
            ·
              replace h49 := e_t h49 hc52
              refine kwp_skip ?_
              refine kn_then ?_
              refine kwp_seq ?_
              refine kwp_block ?_
              refine kwp_seq ?_
              refine kwp_region ?_
              refine kd (v_mv) ?_
              obtain ⟨j53, ej53, nj53, h49⟩ := e_idx h49
              refine kd (v_ia ej53 nj53 Try.runUnderlying26 Try.sizeOf55) ?_
              refine kd (v_lda (e := [_, _, _]) nj53 Try.isAgg55 Try.sizeOf55) ?_
              refine kk (n_alloc (e := [.int .i64 0, .int .i64 0, .int .i64 0]) 3 Try.zeroValue55 (fun p11_54 => ?_))
              refine kd (v_as) ?_
              refine kk (s_B (e' := [.int .i64 ((gx v37.nums j53).e), .int .i64 ((gx v37.nums j53).n), .int .i64 ((gx v37.nums j53).u)]) Try.sizeOf55 ?_)
              refine kops_nil ?_
              refine kn_then ?_
              obtain ⟨j55, ej55, nj55, h49⟩ := e_idx h49
              obtain ⟨v57, hv56, h49⟩ := e_bind h49
              refine kwp_tree (.quiet 0 (.quiet 1 (.quiet 2 (.quiet 3 (.quiet 4 (.quiet 5 (.quiet 6 (.one 7 (.quiet 8 (.one 9 .stop)))))))))) [9] [⟨.slice (some a23) j22 j22, 3, l47.map encWay⟩, ⟨.pointer (some p11_54), 3, [[.int .i64 ((gx v37.nums j53).e), .int .i64 ((gx v37.nums j53).n), .int .i64 ((gx v37.nums j53).u)]]⟩] drawMixed (by kernel_rfl) nopan (by (repeat (first | exact Sub.refl _ | exact Sub.nil _ | refine Sub.chunk (by repeat (first | exact Pick.here | apply Pick.there | apply Pick.seg)) (by rfl) ?_ | refine Sub.seg (by repeat (first | exact PickSeg.here | exact PickSeg.all | apply PickSeg.there | apply PickSeg.seg)) ?_ | exact Sub.seg0 (by repeat (first | exact PickSeg.here | exact PickSeg.all | apply PickSeg.there | apply PickSeg.seg)) | apply Sub.assoc))) ?_
              refine kt_d rfl rfl rfl (v_mv) ?_
              refine kt_d rfl rfl rfl (v_mv) ?_
              refine kt_d rfl rfl rfl (v_mv) ?_
              refine kt_d rfl rfl rfl (v_mv) ?_
              refine kt_d rfl rfl rfl (v_ia ej55 nj55 Try.runUnderlying26 Try.sizeOf55) ?_
              refine kt_d rfl rfl rfl (v_lda (e := [_, _, _]) nj55 Try.isAgg55 Try.sizeOf55) ?_
              refine kt_d rfl rfl rfl (v_ldB Try.isAgg55 Try.sizeOf55) ?_
              refine kt_one ?_
              refine kl_k rfl rfl (n_call Try.call44 (w_impl_WayAdd hv56) ?_)
              rintro _ _ ⟨rfl, rfl⟩
              refine ⟨.inl (by (repeat (first | exact Sub.refl _ | exact Sub.nil _ | refine Sub.chunk (by repeat (first | exact Pick.here | apply Pick.there | apply Pick.seg)) (by rfl) ?_ | refine Sub.seg (by repeat (first | exact PickSeg.here | exact PickSeg.all | apply PickSeg.there | apply PickSeg.seg)) ?_ | exact Sub.seg0 (by repeat (first | exact PickSeg.here | exact PickSeg.all | apply PickSeg.there | apply PickSeg.seg)) | apply Sub.assoc))), ?_⟩
              refine kt_d rfl rfl rfl (v_ia ej55 nj55 Try.runUnderlying26 Try.sizeOf55) ?_
              refine kt_one ?_
              refine kl_k rfl rfl (s_a v57 nj55 Try.sizeOf55 ?_ (ok_encWay _))
              refine ⟨.inr ⟨by decide, rfl⟩, ?_⟩
              refine kt_nil ?_
              refine kn_block ?_
              refine kn_then ?_
              refine kwp_region ?_
              refine kd (v_add) ?_
              refine kd (v_mv) ?_
              refine kops_nil ?_
              refine kn_then ?_
              obtain rfl := e_some h49
              exact ⟨_, (), rfl, hd_mk trivial⟩
            ·
              replace h49 := e_f h49 hc52
              refine kwp_exit ?_
              refine ke_then ?_
              obtain rfl := e_some h49
              refine k_out ?_ rfl
              rintro rfl
              refine ke_block ?_
              exact ⟨(), hd_mk trivial⟩
          · intro l42 y60 _ h61
            refine kn_block ?_
            refine kn_then ?_
            refine kwp_region ?_
            refine kd (v_add) ?_
            refine kd (v_mv) ?_
            refine kops_nil ?_
            refine kn_then ?_
            obtain rfl := e_some h61
            exact ⟨_, (), rfl, hd_mk trivial⟩
        ·
          replace h31 := e_f h31 hc34
          refine kwp_exit ?_
          refine ke_then ?_
          obtain rfl := e_some h31
          refine k_out ?_ rfl
          rintro rfl
          refine ke_block ?_
          exact ⟨(), hd_mk trivial⟩
      · intro l24 y63 _ h64
        refine kn_then ?_
        refine kwp_seq ?_
        refine kwp_region ?_
        refine kd (v_mv) ?_
        refine kd (v_len Try.runUnderlying49) ?_
        refine kd (v_mv) ?_
        refine kd (v_bd [(0, _), (1, _)] [_, _] Try.zeroValue28 Try.runUnderlying28 pl_28) ?_
        refine kk (s_B (e' := [.int .i64 ((v20.length : Nat) : Int), .slice (some a23) j22 j22]) Try.sizeOf28 ?_)
        refine kd (v_as) ?_
        refine kops_nil ?_
        refine kn_then ?_
        refine k_len (c := j22) (fun hl65 => ?_)
        subst hl65
        refine kwp_ret ?_
        obtain rfl := e_some h64
        refine rc1 Try.isAgg28 Try.sizeOf28 [⟨.slice (some a23) (l24.length) (l24.length), 3, l24.map encWay⟩] ?_
        exact ⟨some a23, (l24.length), rfl, rfl⟩

set_option maxRecDepth 20000 in
set_option maxHeartbeats 2000000 in
theorem w_spec_TreesFix (s01a : Option Addr) (s01n : Nat) (s01c : Nat) {s0 : Survey} {r : Fix × Bool} (h : p_spec_TreesFix s0 = some r) :
    Triple Try.prog 20 [.agg #[.int .i64 s0.st, .slice s01a s01n s01c]] [⟨.slice s01a s01n s01c, 5, s0.legs.map encLeg⟩] [] (fun v ch => ∃ (w01a : Option Addr) (w01c : Nat), v = .tuple #[.agg #[.int .i64 r.1.den, .slice w01a r.1.nums.length w01c], .bool r.2] ∧ ch = [⟨.slice w01a r.1.nums.length w01c, 3, r.1.nums.map encWay⟩]) := by
  refine triple_start 59 Try.func20 Try.ntmps20 rfl rfl (fun w0 => ?_)
  refine k_len (c := s01c) (fun hl1 => ?_)
  subst hl1
  unfold p_spec_TreesFix at h
  refine kwp_seq ?_
  refine kwp_region ?_
  refine kk (n_box (e := [.int .i64 s0.st, .slice s01a s0.legs.length s01c]) 2 (fun p1_2 => ?_))
  refine kops_nilchunk 3 (by decide) ?_
  refine kk (n_alloc (e := [.int .i64 0, .slice none 0 0]) 2 Try.zeroValue28 (fun p2_3 => ?_))
  refine kd (v_as) ?_
  refine kops_nil ?_
  refine kn_then ?_
  refine kwp_seq ?_
  refine kwp_region ?_
  refine kd (v_ldB Try.isAgg33 Try.sizeOf33) ?_
  obtain ⟨v5, hv4, h⟩ := e_bind h
  refine kk (n_call Try.call38 (w_spec_TreesAll s01a s0.legs.length s01c hv4) ?_)
  rintro _ _ ⟨q6a, q6c, q6R, rfl, hq6R, rfl⟩
  refine kd (v_as) ?_
  refine kops_nil ?_
  refine kn_then ?_
  refine kwp_seq ?_
  refine kwp_seq ?_
  refine kwp_region ?_
  refine kd (v_mv) ?_
  refine kd (v_len Try.runUnderlying49) ?_
  refine kd (v_cmp) ?_
  refine kops_nil ?_
  refine kn_then ?_
  refine kwp_cond rfl (fun hc7 => ?_) (fun hc7 => ?_)
  ·
    replace h := e_t h hc7
    refine kwp_seq ?_
    refine kwp_region ?_
    refine kops_nilchunk 3 (by decide) ?_
    refine kd (v_bd [] [.int .i64 0, .slice none 0 0] Try.zeroValue28 Try.runUnderlying28 pl_28) ?_
    refine kk (s_B (e' := [.int .i64 0, .slice none 0 0]) Try.sizeOf28 ?_)
    refine kd (v_as) ?_
    refine kops_nil ?_
    refine kn_then ?_
    refine kwp_ret ?_
    refine kr_then ?_
    obtain rfl := e_some h
    refine rc1 Try.isAgg28 Try.sizeOf28 [⟨.slice none 0 0, 3, ([] : List Way).map encWay⟩] ?_
    exact ⟨none, 0, rfl, rfl⟩
  ·
    replace h := e_f h hc7
    refine kwp_skip ?_
    refine kn_then ?_
    refine kwp_seq ?_
    refine kwp_region ?_
    refine kd (v_mv) ?_
    refine kd (v_len Try.runUnderlying49) ?_
    refine kd (v_fb fa_33_0) ?_
    refine kd (v_ldb Try.isAgg3) ?_
    obtain ⟨j8, ej8, nj8, h⟩ := e_sized h
    refine kk (n_make (enc := encWay) (⟨0, 0, 0⟩ : Way) ej8 nj8 Try.underlying26 Try.type55 (by decide) (fun a9 => ?_))
    refine kd (v_bd [(0, _), (1, _)] [_, _] Try.zeroValue28 Try.runUnderlying28 pl_28) ?_
    refine kops_nilchunk 3 (by decide) ?_
    refine kk (n_alloc (e := [.int .i64 0, .slice none 0 0]) 2 Try.zeroValue28 (fun p5_10 => ?_))
    refine kk (s_B (e' := [.int .i64 ((v5.length : Nat) : Int), .slice (some a9) j8 j8]) Try.sizeOf28 ?_)
    refine kops_nil ?_
    refine kn_then ?_
    refine kwp_seq ?_
    refine kwp_seq ?_
    refine kwp_region ?_
    refine kd (v_as) ?_
    refine kops_nil ?_
    refine kn_then ?_
    refine kwp_cutE (inv := [(2, .pointer (some p2_3)), (5, .pointer (some p5_10))]) (fun (z : List Way) (y : Unit) => []) (fun (z : List Way) (y : Unit) => [⟨.slice (some a9) j8 j8, 3, z.map encWay⟩, ⟨.pointer (some p2_3), 2, [[.int .i64 0, .slice none 0 0]]⟩, ⟨.slice none 0 0, 3, ([] : List Way).map encWay⟩, ⟨.pointer (some p5_10), 2, [[.int .i64 ((v5.length : Nat) : Int), .slice (some a9) j8 j8]]⟩]) (fun _ _ => True) h ?_ ?_
    · intro t14 h12
      refine kwp_block ?_
      refine kwp_loopE (inv := [(1, .pointer (some p1_2)), (2, .pointer (some p2_3)), (4, .slice q6a v5.length q6c), (5, .pointer (some p5_10))]) (fun (z : Int × List Way) (y : Unit) => [(6, .int .i64 z.1)]) (fun (z : Int × List Way) (y : Unit) => (⟨.slice (some a9) j8 j8, 3, z.2.map encWay⟩ :: ⟨.pointer (some p1_2), 2, [[.int .i64 s0.st, .slice s01a s0.legs.length s01c]]⟩ :: ⟨.pointer (some p2_3), 2, [[.int .i64 0, .slice none 0 0]]⟩ :: ⟨.slice none 0 0, 3, ([] : List Way).map encWay⟩ :: ⟨.slice q6a v5.length q6c, 1, q6R.map encRow⟩ :: ⟨.pointer (some p5_10), 2, [[.int .i64 ((v5.length : Nat) : Int), .slice (some a9) j8 j8]]⟩ :: (rowsC q6R))) (fun _ _ => True) h12 ⟨(), hd_mk trivial⟩ ?_
      intro z19 y20 b17 _ h18
      obtain ⟨k15, l16⟩ := z19
      unfold p_spec_TreesFix_L0 at h18
      refine kwp_seq ?_
      refine kwp_seq ?_
      refine kwp_region ?_
      refine kd (v_mv) ?_
      refine kd (v_mv) ?_
      refine kd (v_len Try.runUnderlying49) ?_
      refine kd (v_cmp) ?_
      refine kops_nil ?_
      refine kn_then ?_
      refine kwp_cond rfl (fun hc21 => ?_) (fun hc21 => ?_)
      ·
        replace h18 := e_t h18 hc21
        refine kwp_skip ?_
        refine kn_then ?_
        refine kwp_seq ?_
        refine kwp_block ?_
        refine kwp_seq ?_
        refine kwp_nil 3 (by decide) ?_
        obtain ⟨j22, ej22, nj22, h18⟩ := e_idx h18
        obtain ⟨⟨v24, v25⟩, hv23, h18⟩ := e_bind h18
        refine kwp_cutS (inv := [(1, .pointer (some p1_2)), (2, .pointer (some p2_3)), (4, .slice q6a v5.length q6c), (5, .pointer (some p5_10)), (6, .int .i64 k15)]) (fun (y : Option Addr × Nat × Addr) => [(7, .pointer (some y.2.2))]) (fun (y : Option Addr × Nat × Addr) => (⟨.pointer (some p1_2), 2, [[.int .i64 s0.st, .slice s01a s0.legs.length s01c]]⟩ :: ⟨.pointer (some p2_3), 2, [[.int .i64 0, .slice none 0 0]]⟩ :: ⟨.slice none 0 0, 3, ([] : List Way).map encWay⟩ :: ⟨.slice q6a v5.length q6c, 1, q6R.map encRow⟩ :: ⟨.pointer (some p5_10), 2, [[.int .i64 ((v5.length : Nat) : Int), .slice (some a9) j8 j8]]⟩ :: ⟨.slice (some a9) j8 j8, 3, l16.map encWay⟩ :: ⟨.pointer (some y.2.2), 2, [[.int .i64 v24.den, .slice y.1 v24.nums.length y.2.1]]⟩ :: ⟨.slice y.1 v24.nums.length y.2.1, 3, v24.nums.map encWay⟩ :: (rowsC q6R))) (fun (y : Option Addr × Nat × Addr) => True) ?_ ?_
        ·
          refine kwp_tree (.quiet 0 (.quiet 1 (.quiet 2 (.quiet 3 (.quiet 4 (.two 5 (.quiet 6 (.quiet 7 (.quiet 8 (.one 9 (.one 10 (.quiet 11 .stop)))))) 9 (.one 5 (.quiet 6 (.quiet 7 (.quiet 8 (.one 10 (.quiet 11 .stop)))))))))))) [] (⟨.pointer (some p1_2), 2, [[.int .i64 s0.st, .slice s01a s0.legs.length s01c]]⟩ :: ⟨.slice q6a v5.length q6c, 1, q6R.map encRow⟩ :: (rowsC q6R)) drawMixed (by kernel_rfl) nopan (by (repeat (first | exact Sub.refl _ | exact Sub.nil _ | refine Sub.chunk (by repeat (first | exact Pick.here | apply Pick.there | apply Pick.seg)) (by rfl) ?_ | refine Sub.seg (by repeat (first | exact PickSeg.here | exact PickSeg.all | apply PickSeg.there | apply PickSeg.seg)) ?_ | exact Sub.seg0 (by repeat (first | exact PickSeg.here | exact PickSeg.all | apply PickSeg.there | apply PickSeg.seg)) | apply Sub.assoc))) ?_
          refine kt_d rfl rfl rfl (v_ldB Try.isAgg33 Try.sizeOf33) ?_
          refine kt_d rfl rfl rfl (v_mv) ?_
          refine kt_d rfl rfl rfl (v_mv) ?_
          refine kt_d rfl rfl rfl (v_ia ej22 nj22 Try.runUnderlying49 Try.sizeOf40) ?_
          refine kt_d rfl rfl rfl (v_ldr nj22 hq6R Try.isAgg40) ?_
          refine kt_two ?_ ?_
          ·
            refine kl_k rfl rfl (n_call Try.call15 (w_spec_TreeFix s01a s0.legs.length s01c ((gx q6R j22).a) ((gx v5 j22).length) ((gx q6R j22).c) hv23) ?_ (hv := (Views.cons (by repeat (first | exact mh | apply mt | apply mas | apply ms)) (View.refl _) (Views.cons (by repeat (first | exact mr hq6R (by first | exact nj22 | (simpa using nj22) | omega | (simp only [List.length_set]; omega)) | exact mr0 hq6R (by first | exact nj22 | (simpa using nj22) | omega | (simp only [List.length_set]; omega)) | apply mt | apply mas | apply ms)) (View.refl _) (Views.nil _)))))
            rintro _ _ ⟨q261a, q261c, rfl, rfl⟩
            refine ⟨.inl (by (repeat (first | exact Sub.refl _ | exact Sub.nil _ | refine Sub.chunk (by repeat (first | exact Pick.here | apply Pick.there | apply Pick.seg)) (by rfl) ?_ | refine Sub.seg (by repeat (first | exact PickSeg.here | exact PickSeg.all | apply PickSeg.there | apply PickSeg.seg)) ?_ | exact Sub.seg0 (by repeat (first | exact PickSeg.here | exact PickSeg.all | apply PickSeg.there | apply PickSeg.seg)) | apply Sub.assoc))), ?_⟩
            refine kt_d rfl rfl rfl (v_mv) ?_
            refine kt_d rfl rfl rfl (v_ex) ?_
            refine kt_d rfl rfl rfl (v_ex) ?_
            refine kt_one ?_
            refine kl_k rfl rfl (n_alloc (e := [.int .i64 0, .slice none 0 0]) 2 Try.zeroValue28 (fun p7_28 => ?_))
            refine ⟨.inl (by (repeat (first | exact Sub.refl _ | exact Sub.nil _ | refine Sub.chunk (by repeat (first | exact Pick.here | apply Pick.there | apply Pick.seg)) (by rfl) ?_ | refine Sub.seg (by repeat (first | exact PickSeg.here | exact PickSeg.all | apply PickSeg.there | apply PickSeg.seg)) ?_ | exact Sub.seg0 (by repeat (first | exact PickSeg.here | exact PickSeg.all | apply PickSeg.there | apply PickSeg.seg)) | apply Sub.assoc))), ?_⟩
            refine kt_one ?_
            refine kl_k rfl rfl (s_B (e' := [.int .i64 v24.den, .slice q261a v24.nums.length q261c]) Try.sizeOf28 ?_)
            refine ⟨.inl (by (repeat (first | exact Sub.refl _ | exact Sub.nil _ | refine Sub.chunk (by repeat (first | exact Pick.here | apply Pick.there | apply Pick.seg)) (by rfl) ?_ | refine Sub.seg (by repeat (first | exact PickSeg.here | exact PickSeg.all | apply PickSeg.there | apply PickSeg.seg)) ?_ | exact Sub.seg0 (by repeat (first | exact PickSeg.here | exact PickSeg.all | apply PickSeg.there | apply PickSeg.seg)) | apply Sub.assoc))), ?_⟩
            refine kt_d rfl rfl rfl (v_as) ?_
            refine kt_nil ?_
            refine kn_then ?_
            exact ⟨(q261a, q261c, p7_28), hd_mk trivial⟩
          ·
            refine kl_k rfl rfl (n_alloc (e := [.int .i64 0, .slice none 0 0]) 2 Try.zeroValue28 (fun p7_28 => ?_))
            refine ⟨.inl (by (repeat (first | exact Sub.refl _ | exact Sub.nil _ | refine Sub.chunk (by repeat (first | exact Pick.here | apply Pick.there | apply Pick.seg)) (by rfl) ?_ | refine Sub.seg (by repeat (first | exact PickSeg.here | exact PickSeg.all | apply PickSeg.there | apply PickSeg.seg)) ?_ | exact Sub.seg0 (by repeat (first | exact PickSeg.here | exact PickSeg.all | apply PickSeg.there | apply PickSeg.seg)) | apply Sub.assoc))), ?_⟩
            refine kt_one ?_
            refine kl_k rfl rfl (n_call Try.call15 (w_spec_TreeFix s01a s0.legs.length s01c ((gx q6R j22).a) ((gx v5 j22).length) ((gx q6R j22).c) hv23) ?_ (hv := (Views.cons (by repeat (first | exact mh | apply mt | apply mas | apply ms)) (View.refl _) (Views.cons (by repeat (first | exact mr hq6R (by first | exact nj22 | (simpa using nj22) | omega | (simp only [List.length_set]; omega)) | exact mr0 hq6R (by first | exact nj22 | (simpa using nj22) | omega | (simp only [List.length_set]; omega)) | apply mt | apply mas | apply ms)) (View.refl _) (Views.nil _)))))
            rintro _ _ ⟨q261a, q261c, rfl, rfl⟩
            refine ⟨.inl (by (repeat (first | exact Sub.refl _ | exact Sub.nil _ | refine Sub.chunk (by repeat (first | exact Pick.here | apply Pick.there | apply Pick.seg)) (by rfl) ?_ | refine Sub.seg (by repeat (first | exact PickSeg.here | exact PickSeg.all | apply PickSeg.there | apply PickSeg.seg)) ?_ | exact Sub.seg0 (by repeat (first | exact PickSeg.here | exact PickSeg.all | apply PickSeg.there | apply PickSeg.seg)) | apply Sub.assoc))), ?_⟩
            refine kt_d rfl rfl rfl (v_mv) ?_
            refine kt_d rfl rfl rfl (v_ex) ?_
            refine kt_d rfl rfl rfl (v_ex) ?_
            refine kt_one ?_
            refine kl_k rfl rfl (s_B (e' := [.int .i64 v24.den, .slice q261a v24.nums.length q261c]) Try.sizeOf28 ?_)
            refine ⟨.inl (by (repeat (first | exact Sub.refl _ | exact Sub.nil _ | refine Sub.chunk (by repeat (first | exact Pick.here | apply Pick.there | apply Pick.seg)) (by rfl) ?_ | refine Sub.seg (by repeat (first | exact PickSeg.here | exact PickSeg.all | apply PickSeg.there | apply PickSeg.seg)) ?_ | exact Sub.seg0 (by repeat (first | exact PickSeg.here | exact PickSeg.all | apply PickSeg.there | apply PickSeg.seg)) | apply Sub.assoc))), ?_⟩
            refine kt_d rfl rfl rfl (v_as) ?_
            refine kt_nil ?_
            refine kn_then ?_
            exact ⟨(q261a, q261c, p7_28), hd_mk trivial⟩
        · intro y29 _
          obtain ⟨q261a, q261c, p7_28⟩ := y29
          refine kn_then ?_
          refine kwp_seq ?_
          refine kwp_region ?_
          refine kd (v_as) ?_
          refine kops_nil ?_
          refine kn_then ?_
          refine kwp_cutE (inv := [(1, .pointer (some p1_2)), (2, .pointer (some p2_3)), (4, .slice q6a v5.length q6c), (5, .pointer (some p5_10)), (6, .int .i64 k15)]) (fun (z : List Way) (y : Unit) => []) (fun (z : List Way) (y : Unit) => (⟨.slice (some a9) j8 j8, 3, z.map encWay⟩ :: ⟨.pointer (some p1_2), 2, [[.int .i64 s0.st, .slice s01a s0.legs.length s01c]]⟩ :: ⟨.pointer (some p2_3), 2, [[.int .i64 0, .slice none 0 0]]⟩ :: ⟨.slice none 0 0, 3, ([] : List Way).map encWay⟩ :: ⟨.slice q6a v5.length q6c, 1, q6R.map encRow⟩ :: ⟨.pointer (some p5_10), 2, [[.int .i64 ((v5.length : Nat) : Int), .slice (some a9) j8 j8]]⟩ :: (rowsC q6R))) (fun _ _ => True) h18 ?_ ?_
          · intro t33 h31
            refine kwp_block ?_
            refine kwp_loopE (inv := [(1, .pointer (some p1_2)), (2, .pointer (some p2_3)), (4, .slice q6a v5.length q6c), (5, .pointer (some p5_10)), (6, .int .i64 k15), (7, .pointer (some p7_28))]) (fun (z : Int × List Way) (y : Unit) => [(9, .int .i64 z.1)]) (fun (z : Int × List Way) (y : Unit) => (⟨.slice (some a9) j8 j8, 3, z.2.map encWay⟩ :: ⟨.pointer (some p1_2), 2, [[.int .i64 s0.st, .slice s01a s0.legs.length s01c]]⟩ :: ⟨.pointer (some p2_3), 2, [[.int .i64 0, .slice none 0 0]]⟩ :: ⟨.slice none 0 0, 3, ([] : List Way).map encWay⟩ :: ⟨.slice q6a v5.length q6c, 1, q6R.map encRow⟩ :: ⟨.pointer (some p5_10), 2, [[.int .i64 ((v5.length : Nat) : Int), .slice (some a9) j8 j8]]⟩ :: ⟨.pointer (some p7_28), 2, [[.int .i64 v24.den, .slice q261a v24.nums.length q261c]]⟩ :: ⟨.slice q261a v24.nums.length q261c, 3, v24.nums.map encWay⟩ :: (rowsC q6R))) (fun _ _ => True) h31 ⟨(), hd_mk trivial⟩ ?_
            intro z38 y39 b36 _ h37
            obtain ⟨j34, l35⟩ := z38
            unfold p_spec_TreesFix_L1 at h37
            refine kwp_seq ?_
            refine kwp_seq ?_
            refine kwp_region ?_
            refine kd (v_mv) ?_
            refine kd (v_fb fa_33_0) ?_
            refine kd (v_ldb Try.isAgg3) ?_
            refine kd (v_cmp) ?_
            refine kops_nil ?_
            refine kn_then ?_
            refine kwp_cond rfl (fun hc40 => ?_) (fun hc40 => ?_)
            ·
              replace h37 := e_t h37 hc40
              refine kwp_skip ?_
              refine kn_then ?_
              refine kwp_seq ?_
              refine kwp_block ?_
              obtain ⟨j41, ej41, nj41, h37⟩ := e_idx h37
              obtain ⟨j42, ej42, nj42, h37⟩ := e_idx h37
              obtain ⟨v44, hv43, h37⟩ := e_bind h37
              refine kwp_tree (.quiet 0 (.quiet 1 (.quiet 2 (.quiet 3 (.quiet 4 (.quiet 5 (.quiet 6 (.quiet 7 (.quiet 8 (.quiet 9 (.quiet 10 (.quiet 11 (.quiet 12 (.one 13 (.quiet 14 (.one 15 .stop)))))))))))))))) [15] [⟨.slice (some a9) j8 j8, 3, l35.map encWay⟩, ⟨.pointer (some p5_10), 2, [[.int .i64 ((v5.length : Nat) : Int), .slice (some a9) j8 j8]]⟩, ⟨.slice q261a v24.nums.length q261c, 3, v24.nums.map encWay⟩, ⟨.pointer (some p7_28), 2, [[.int .i64 v24.den, .slice q261a v24.nums.length q261c]]⟩] drawMixed (by kernel_rfl) nopan (by (repeat (first | exact Sub.refl _ | exact Sub.nil _ | refine Sub.chunk (by repeat (first | exact Pick.here | apply Pick.there | apply Pick.seg)) (by rfl) ?_ | refine Sub.seg (by repeat (first | exact PickSeg.here | exact PickSeg.all | apply PickSeg.there | apply PickSeg.seg)) ?_ | exact Sub.seg0 (by repeat (first | exact PickSeg.here | exact PickSeg.all | apply PickSeg.there | apply PickSeg.seg)) | apply Sub.assoc))) ?_
              refine kt_d rfl rfl rfl (v_fb fa_28_1) ?_
              refine kt_d rfl rfl rfl (v_ldb Try.isAgg26) ?_
              refine kt_d rfl rfl rfl (v_mv) ?_
              refine kt_d rfl rfl rfl (v_fb fa_28_1) ?_
              refine kt_d rfl rfl rfl (v_ldb Try.isAgg26) ?_
              refine kt_d rfl rfl rfl (v_mv) ?_
              refine kt_d rfl rfl rfl (v_ia ej41 nj41 Try.runUnderlying26 Try.sizeOf55) ?_
              refine kt_d rfl rfl rfl (v_lda (e := [_, _, _]) nj41 Try.isAgg55 Try.sizeOf55) ?_
              refine kt_d rfl rfl rfl (v_fb fa_28_1) ?_
              refine kt_d rfl rfl rfl (v_ldb Try.isAgg26) ?_
              refine kt_d rfl rfl rfl (v_mv) ?_
              refine kt_d rfl rfl rfl (v_ia ej42 nj42 Try.runUnderlying26 Try.sizeOf55) ?_
              refine kt_d rfl rfl rfl (v_lda (e := [_, _, _]) nj42 Try.isAgg55 Try.sizeOf55) ?_
              refine kt_one ?_
              refine kl_k rfl rfl (n_call Try.call42 (w_spec_WayAdd hv43) ?_)
              rintro _ _ ⟨rfl, rfl⟩
              refine ⟨.inl (by (repeat (first | exact Sub.refl _ | exact Sub.nil _ | refine Sub.chunk (by repeat (first | exact Pick.here | apply Pick.there | apply Pick.seg)) (by rfl) ?_ | refine Sub.seg (by repeat (first | exact PickSeg.here | exact PickSeg.all | apply PickSeg.there | apply PickSeg.seg)) ?_ | exact Sub.seg0 (by repeat (first | exact PickSeg.here | exact PickSeg.all | apply PickSeg.there | apply PickSeg.seg)) | apply Sub.assoc))), ?_⟩
              refine kt_d rfl rfl rfl (v_ia ej41 nj41 Try.runUnderlying26 Try.sizeOf55) ?_
              refine kt_one ?_
              refine kl_k rfl rfl (s_a v44 nj41 Try.sizeOf55 ?_ (ok_encWay _))
              refine ⟨.inr ⟨by decide, rfl⟩, ?_⟩
              refine kt_nil ?_
              refine kn_block ?_
              refine kn_then ?_
              refine kwp_region ?_
              refine kd (v_mv) ?_
              refine kd (v_add) ?_
              refine kd (v_as) ?_
              refine kops_nil ?_
              refine kn_then ?_
              obtain rfl := e_some h37
              exact ⟨_, (), rfl, hd_mk trivial⟩
            ·
              replace h37 := e_f h37 hc40
              refine kwp_exit ?_
              refine ke_then ?_
              obtain rfl := e_some h37
              refine k_out ?_ rfl
              rintro rfl
              refine ke_block ?_
              exact ⟨(), hd_mk trivial⟩
          · intro l30 y47 _ h48
            refine kn_block ?_
            refine kn_then ?_
            refine kwp_region ?_
            refine kd (v_mv) ?_
            refine kd (v_add) ?_
            refine kd (v_as) ?_
            refine kops_nil ?_
            refine kn_then ?_
            obtain rfl := e_some h48
            exact ⟨_, (), rfl, hd_mk trivial⟩
      ·
        replace h18 := e_f h18 hc21
        refine kwp_exit ?_
        refine ke_then ?_
        obtain rfl := e_some h18
        refine k_out ?_ rfl
        rintro rfl
        refine ke_block ?_
        exact ⟨(), hd_mk trivial⟩
    · intro l11 y50 _ h51
      refine kn_then ?_
      refine kwp_seq ?_
      refine kwp_region ?_
      refine kd (v_ldB Try.isAgg28 Try.sizeOf28) ?_
      refine kk (s_B (e' := [.int .i64 ((v5.length : Nat) : Int), .slice (some a9) j8 j8]) Try.sizeOf28 ?_)
      refine kd (v_as) ?_
      refine kops_nil ?_
      refine kn_then ?_
      refine k_len (c := j8) (fun hl52 => ?_)
      subst hl52
      refine kwp_ret ?_
      obtain rfl := e_some h51
      refine rc1 Try.isAgg28 Try.sizeOf28 [⟨.slice (some a9) (l11.length) (l11.length), 3, l11.map encWay⟩] ?_
      exact ⟨some a9, (l11.length), rfl, rfl⟩

end Go.Proofs.Ytkhjbfngafebeaa
