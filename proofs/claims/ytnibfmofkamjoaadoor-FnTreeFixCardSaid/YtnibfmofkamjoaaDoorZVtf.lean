/- What the plain programs return, the functions of the program return; no condition. -/
import Derived.Test.YtnibfmofkamjoaaDoorZQ
import Derived.Test.YtnibfmofkamjoaaDoorZFa
import Derived.Test.YtnibfmofkamjoaaDoorZVba
import Derived.Test.YtnibfmofkamjoaaDoorZVbq
namespace Go.Proofs.YtnibfmofkamjoaaDoor
open Go
set_option linter.unusedVariables false
set_option linter.unusedSimpArgs false

set_option maxRecDepth 20000 in
set_option maxHeartbeats 2000000 in
theorem w_impl_TreeFix (s01a : Option Addr) (s01n : Nat) (s01c : Nat) (tree0a : Option Addr) (tree0n : Nat) (tree0c : Nat) {s0 : Survey} {tree0 : List Int} {r : Fix × Bool} (h : p_impl_TreeFix s0 tree0 = some r) :
    Triple Tryd.prog 16 [.agg #[.int .i64 s0.st, .slice s01a s01n s01c], .slice tree0a tree0n tree0c] [⟨.slice s01a s01n s01c, 5, s0.legs.map encLeg⟩, ⟨.slice tree0a tree0n tree0c, 1, tree0.map encI⟩] [] (fun v ch => ∃ (w01a : Option Addr) (w01c : Nat), v = .tuple #[.agg #[.int .i64 r.1.den, .slice w01a r.1.nums.length w01c], .bool r.2] ∧ ch = [⟨.slice w01a r.1.nums.length w01c, 3, r.1.nums.map encWay⟩]) := by
  refine triple_start 61 Tryd.func16 Tryd.ntmps16 rfl rfl (fun w0 => ?_)
  refine k_len (c := s01c) (fun hl1 => ?_)
  subst hl1
  refine k_len (c := tree0c) (fun hl2 => ?_)
  subst hl2
  unfold p_impl_TreeFix at h
  refine kwp_seq ?_
  refine kwp_region ?_
  refine kk (n_box (e := [.int .i64 s0.st, .slice s01a s0.legs.length s01c]) 2 (fun p2_3 => ?_))
  refine kops_nilchunk 3 (by decide) ?_
  refine kk (n_alloc (e := [.int .i64 0, .slice none 0 0]) 2 Tryd.zeroValue31 (fun p4_4 => ?_))
  refine kd (v_as) ?_
  refine kops_nil ?_
  refine kn_then ?_
  refine kwp_seq ?_
  refine kwp_seq ?_
  refine kwp_cutE (inv := [(1, .slice tree0a tree0.length tree0c), (2, .pointer (some p2_3)), (4, .pointer (some p4_4))]) (fun (z : Bool) (y : Unit) => [(19, .bool z)]) (fun (z : Bool) (y : Unit) => [⟨.pointer (some p2_3), 2, [[.int .i64 s0.st, .slice s01a s0.legs.length s01c]]⟩, ⟨.pointer (some p4_4), 2, [[.int .i64 0, .slice none 0 0]]⟩, ⟨.slice none 0 0, 3, ([] : List Way).map encWay⟩]) (fun _ _ => True) h ?_ ?_
  · intro t8 h6
    refine kwp_region ?_
    refine kd (v_ldB Tryd.isAgg25 Tryd.sizeOf25) ?_
    obtain ⟨v10, hv9, h6⟩ := e_bind h6
    refine kk (n_call Tryd.call29 (w_impl_SurveyValid s01a s0.legs.length s01c hv9) ?_)
    rintro _ _ ⟨rfl, rfl⟩
    refine kd (v_not) ?_
    refine kd (v_mv) ?_
    refine kops_split 14 rfl (fun hb12 => ?_) (fun hb12 => ?_)
    ·
      replace h6 := e_t h6 hb12
      refine kskip hb12 ?_
      refine kskip hb12 ?_
      refine kskip hb12 ?_
      refine kskip hb12 ?_
      refine kd (v_pt hb12) ?_
      refine kops_nil ?_
      refine kn_then ?_
      obtain rfl := e_some h6
      exact ⟨(), hd_mk trivial⟩
    ·
      replace h6 := e_f h6 hb12
      refine kgd hb12 (v_ldB Tryd.isAgg25 Tryd.sizeOf25) ?_
      refine kgd hb12 (v_mv) ?_
      obtain ⟨v14, hv13, h6⟩ := e_bind h6
      refine kgk hb12 (n_call Tryd.call71 (w_impl_isTree s01a s0.legs.length s01c tree0a tree0.length tree0c hv13) ?_)
      rintro _ _ ⟨rfl, rfl⟩
      refine kgd hb12 (v_not) ?_
      refine kd (v_pf hb12) ?_
      refine kops_nil ?_
      refine kn_then ?_
      obtain rfl := e_some h6
      exact ⟨(), hd_mk trivial⟩
  · intro x5 y17 _ h18
    refine kn_then ?_
    refine kwp_cond rfl (fun hc19 => ?_) (fun hc19 => ?_)
    ·
      replace h18 := e_t h18 hc19
      refine kwp_seq ?_
      refine kwp_region ?_
      refine kops_nilchunk 3 (by decide) ?_
      refine kd (v_bd [] [.int .i64 0, .slice none 0 0] Tryd.zeroValue31 Tryd.runUnderlying31 pl_31) ?_
      refine kk (s_B (e' := [.int .i64 0, .slice none 0 0]) Tryd.sizeOf31 ?_)
      refine kd (v_as) ?_
      refine kops_nil ?_
      refine kn_then ?_
      refine kwp_ret ?_
      refine kr_then ?_
      obtain rfl := e_some h18
      refine rc1 Tryd.isAgg31 Tryd.sizeOf31 [⟨.slice none 0 0, 3, ([] : List Way).map encWay⟩] ?_
      exact ⟨none, 0, rfl, rfl⟩
    ·
      replace h18 := e_f h18 hc19
      refine kwp_skip ?_
      refine kn_then ?_
      refine kwp_seq ?_
      refine kwp_region ?_
      refine kd (v_fb fa_25_0) ?_
      refine kd (v_ldb Tryd.isAgg3) ?_
      refine kops_nilchunk 5 (by decide) ?_
      refine kd (v_bd [(0, _)] [_, .slice none 0 0] Tryd.zeroValue25 Tryd.runUnderlying25 pl_25) ?_
      refine kops_nilchunk 5 (by decide) ?_
      refine kk (n_alloc (e := [.int .i64 0, .slice none 0 0]) 2 Tryd.zeroValue25 (fun p6_20 => ?_))
      refine kk (s_B (e' := [.int .i64 s0.st, .slice none 0 0]) Tryd.sizeOf25 ?_)
      refine kops_nil ?_
      refine kn_then ?_
      refine kwp_seq ?_
      refine kwp_seq ?_
      refine kwp_region ?_
      refine kd (v_mv) ?_
      refine kd (v_len Tryd.runUnderlying26) ?_
      refine kd (v_mv) ?_
      refine kops_nil ?_
      refine kn_then ?_
      refine kwp_cutE (inv := [(2, .pointer (some p2_3)), (4, .pointer (some p4_4)), (6, .pointer (some p6_20))]) (fun (z : List Leg) (y : Option Addr × Nat × Nat) => []) (fun (z : List Leg) (y : Option Addr × Nat × Nat) => [⟨.pointer (some p6_20), 2, [[.int .i64 s0.st, .slice y.1 y.2.1 y.2.2]]⟩, ⟨.slice y.1 y.2.1 y.2.2, 5, z.map encLeg⟩, ⟨.pointer (some p2_3), 2, [[.int .i64 s0.st, .slice s01a s0.legs.length s01c]]⟩, ⟨.pointer (some p4_4), 2, [[.int .i64 0, .slice none 0 0]]⟩, ⟨.slice none 0 0, 3, ([] : List Way).map encWay⟩]) (fun _ _ => True) h18 ?_ ?_
      · intro t24 h22
        refine kwp_block ?_
        refine kwp_loopE (inv := [(2, .pointer (some p2_3)), (4, .pointer (some p4_4)), (6, .pointer (some p6_20)), (24, .slice tree0a tree0.length tree0c), (25, .int .i64 ((tree0.length : Nat) : Int))]) (fun (z : Int × List Leg) (y : Option Addr × Nat × Nat) => [(26, .int .i64 z.1)]) (fun (z : Int × List Leg) (y : Option Addr × Nat × Nat) => [⟨.pointer (some p6_20), 2, [[.int .i64 s0.st, .slice y.1 y.2.1 y.2.2]]⟩, ⟨.slice y.1 y.2.1 y.2.2, 5, z.2.map encLeg⟩, ⟨.pointer (some p2_3), 2, [[.int .i64 s0.st, .slice s01a s0.legs.length s01c]]⟩, ⟨.pointer (some p4_4), 2, [[.int .i64 0, .slice none 0 0]]⟩, ⟨.slice none 0 0, 3, ([] : List Way).map encWay⟩]) (fun _ _ => True) h22 ⟨(none, 0, 0), hd_mk trivial⟩ ?_
        intro z29 y30 b27 _ h28
        obtain ⟨x25, legs26⟩ := z29
        obtain ⟨legs26a, legs26n, legs26c⟩ := y30
        refine k_len (c := legs26c) (fun hl31 => ?_)
        subst hl31
        unfold p_impl_TreeFix_L0 at h28
        refine kwp_seq ?_
        refine kwp_region ?_
        refine kd (v_cmp) ?_
        refine kops_nil ?_
        refine kn_then ?_
        refine kwp_seq ?_
        refine kwp_cond rfl (fun hc32 => ?_) (fun hc32 => ?_)
        ·
          replace h28 := e_t h28 hc32
          refine kwp_skip ?_
          refine kn_then ?_
          refine kwp_seq ?_
          refine kwp_block ?_
          refine kwp_seq ?_
          refine kwp_region ?_
          obtain ⟨j33, ej33, nj33, h28⟩ := e_idx h28
          refine kd (v_ia ej33 nj33 Tryd.runUnderlying26 Tryd.sizeOf3) ?_
          refine kd (v_ldf nj33 Tryd.isAgg3) ?_
          refine kd (v_as) ?_
          refine kops_nil ?_
          refine kn_then ?_
          obtain ⟨j34, ej34, nj34, h28⟩ := e_idx h28
          obtain ⟨hz36, h28⟩ := e_need h28
          refine kwp_tree (.quiet 0 (.quiet 1 (.quiet 2 (.quiet 3 (.quiet 4 (.quiet 5 (.quiet 6 (.one 7 (.one 8 (.quiet 9 (.one 10 .stop))))))))))) [10] [⟨.pointer (some p2_3), 2, [[.int .i64 s0.st, .slice s01a s0.legs.length s01c]]⟩, ⟨.pointer (some p6_20), 2, [[.int .i64 s0.st, .slice legs26a legs26.length legs26c]]⟩] drawMixed (by kernel_rfl) nopan (by (repeat (first | exact Sub.refl _ | exact Sub.nil _ | refine Sub.chunk (by repeat (first | exact Pick.here | apply Pick.there | apply Pick.seg)) (by rfl) ?_ | refine Sub.seg (by repeat (first | exact PickSeg.here | exact PickSeg.all | apply PickSeg.there | apply PickSeg.seg)) ?_ | exact Sub.seg0 (by repeat (first | exact PickSeg.here | exact PickSeg.all | apply PickSeg.there | apply PickSeg.seg)) | apply Sub.assoc))) ?_
          refine kt_d rfl rfl rfl (v_fb fa_25_1) ?_
          refine kt_d rfl rfl rfl (v_ldb Tryd.isAgg23) ?_
          refine kt_d rfl rfl rfl (v_fb fa_25_1) ?_
          refine kt_d rfl rfl rfl (v_ldb Tryd.isAgg23) ?_
          refine kt_d rfl rfl rfl (v_mv) ?_
          refine kt_d rfl rfl rfl (v_ia ej34 nj34 Tryd.runUnderlying23 Tryd.sizeOf48) ?_
          refine kt_d rfl rfl rfl (v_lda (e := [_, _, _, _, _]) nj34 Tryd.isAgg48 Tryd.sizeOf48) ?_
          refine kt_one ?_
          refine kl_k rfl rfl (n_lit (enc := encLeg) [_] ([gx s0.legs j34] : List Leg) Tryd.runUnderlying23 Tryd.sizeOf48 Tryd.zeroValue48 (fun a35 => ?_))
          refine ⟨.inl (by (repeat (first | exact Sub.refl _ | exact Sub.nil _ | refine Sub.chunk (by repeat (first | exact Pick.here | apply Pick.there | apply Pick.seg)) (by rfl) ?_ | refine Sub.seg (by repeat (first | exact PickSeg.here | exact PickSeg.all | apply PickSeg.there | apply PickSeg.seg)) ?_ | exact Sub.seg0 (by repeat (first | exact PickSeg.here | exact PickSeg.all | apply PickSeg.there | apply PickSeg.seg)) | apply Sub.assoc))), ?_⟩
          refine kt_one ?_
          refine kl_k rfl rfl (n_app (enc := encLeg) ok_encLeg hz36 Tryd.underlying23 Tryd.type48 (by decide) (fun a37 c38 => ?_))
          refine ⟨.inl (by (repeat (first | exact Sub.refl _ | exact Sub.nil _ | refine Sub.chunk (by repeat (first | exact Pick.here | apply Pick.there | apply Pick.seg)) (by rfl) ?_ | refine Sub.seg (by repeat (first | exact PickSeg.here | exact PickSeg.all | apply PickSeg.there | apply PickSeg.seg)) ?_ | exact Sub.seg0 (by repeat (first | exact PickSeg.here | exact PickSeg.all | apply PickSeg.there | apply PickSeg.seg)) | apply Sub.assoc))), ?_⟩
          refine kt_d rfl rfl rfl (v_fb fa_25_1) ?_
          refine kt_one ?_
          refine kl_k rfl rfl (s_b (e' := [.int .i64 s0.st, .slice a37 ((legs26 ++ ([gx s0.legs j34] : List Leg)).length) c38]) Tryd.sizeOf23 ?_)
          refine ⟨.inr ⟨by decide, rfl⟩, ?_⟩
          refine kt_nil ?_
          refine kn_block ?_
          refine kn_then ?_
          refine kwp_region ?_
          refine kd (v_add) ?_
          refine kd (v_mv) ?_
          refine kops_nil ?_
          refine kn_then ?_
          obtain rfl := e_some h28
          exact ⟨_, (a37, (legs26 ++ ([gx s0.legs j34] : List Leg)).length, c38), rfl, hd_mk trivial⟩
        ·
          replace h28 := e_f h28 hc32
          refine kwp_exit ?_
          refine ke_then ?_
          obtain rfl := e_some h28
          refine k_out ?_ rfl
          rintro rfl
          refine ke_block ?_
          exact ⟨(legs26a, legs26.length, legs26c), hd_mk trivial⟩
      · intro legs21 y40 _ h41
        obtain ⟨legs21a, legs21n, legs21c⟩ := y40
        refine k_len (c := legs21c) (fun hl42 => ?_)
        subst hl42
        refine kwp_seq ?_
        refine kwp_region ?_
        refine kd (v_fb fa_25_0) ?_
        refine kd (v_ldb Tryd.isAgg3) ?_
        obtain ⟨j43, ej43, nj43, h41⟩ := e_sized h41
        refine kk (n_make (enc := encWay) (⟨0, 0, 0⟩ : Way) ej43 nj43 Tryd.underlying29 Tryd.type37 (by decide) (fun a44 => ?_))
        refine kd (v_as) ?_
        refine kops_nil ?_
        refine kn_then ?_
        refine kwp_seq ?_
        refine kwp_seq ?_
        refine kwp_region ?_
        refine kd (v_mv) ?_
        refine kd (v_len Tryd.runUnderlying29) ?_
        refine kd (v_mv) ?_
        refine kops_nil ?_
        refine kn_then ?_
        refine kwp_cutE (inv := [(4, .pointer (some p4_4)), (9, .slice (some a44) j43 j43)]) (fun (z : List Way) (y : Unit) => []) (fun (z : List Way) (y : Unit) => [⟨.slice (some a44) j43 j43, 3, z.map encWay⟩, ⟨.pointer (some p4_4), 2, [[.int .i64 0, .slice none 0 0]]⟩, ⟨.slice none 0 0, 3, ([] : List Way).map encWay⟩]) (fun _ _ => True) h41 ?_ ?_
        · intro t48 h46
          refine kwp_block ?_
          refine kwp_loopE (inv := [(4, .pointer (some p4_4)), (6, .pointer (some p6_20)), (9, .slice (some a44) j43 j43), (45, .int .i64 ((j43 : Nat) : Int))]) (fun (z : Int × List Way) (y : Unit) => [(46, .int .i64 z.1)]) (fun (z : Int × List Way) (y : Unit) => [⟨.slice (some a44) j43 j43, 3, z.2.map encWay⟩, ⟨.pointer (some p4_4), 2, [[.int .i64 0, .slice none 0 0]]⟩, ⟨.slice none 0 0, 3, ([] : List Way).map encWay⟩, ⟨.pointer (some p6_20), 2, [[.int .i64 s0.st, .slice legs21a legs21.length legs21c]]⟩, ⟨.slice legs21a (legs21.length) legs21c, 5, legs21.map encLeg⟩]) (fun _ _ => True) h46 ⟨(), hd_mk trivial⟩ ?_
          intro z53 y54 b51 _ h52
          obtain ⟨x49, l50⟩ := z53
          unfold p_impl_TreeFix_L1 at h52
          refine kwp_seq ?_
          refine kwp_region ?_
          refine kd (v_cmp) ?_
          refine kops_nil ?_
          refine kn_then ?_
          refine kwp_seq ?_
          refine kwp_cond rfl (fun hc55 => ?_) (fun hc55 => ?_)
          ·
            replace h52 := e_t h52 hc55
            refine kwp_skip ?_
            refine kn_then ?_
            refine kwp_seq ?_
            refine kwp_block ?_
            refine kwp_seq ?_
            refine kwp_region ?_
            refine kd (v_mv) ?_
            refine kd (v_as) ?_
            refine kops_nil ?_
            refine kn_then ?_
            refine kwp_region ?_
            refine kd (v_mv) ?_
            refine kd (v_mv) ?_
            refine kd (v_ldB Tryd.isAgg25 Tryd.sizeOf25) ?_
            refine kd (v_mv) ?_
            obtain ⟨⟨v57, v58⟩, hv56, h52⟩ := e_bind h52
            refine kk (n_call Tryd.call72 (w_impl_TreePlace legs21a legs21.length legs21c hv56) ?_)
            rintro _ _ ⟨rfl, rfl⟩
            refine kd (v_mv) ?_
            refine kd (v_ex) ?_
            refine kd (v_ex) ?_
            obtain ⟨j61, ej61, nj61, h52⟩ := e_idx h52
            refine kd (v_ia ej61 nj61 Tryd.runUnderlying29 Tryd.sizeOf37) ?_
            refine kk (s_a v57 nj61 Tryd.sizeOf37 ?_ (ok_encWay _))
            refine kops_nil ?_
            refine kn_block ?_
            refine kn_then ?_
            refine kwp_region ?_
            refine kd (v_add) ?_
            refine kd (v_mv) ?_
            refine kops_nil ?_
            refine kn_then ?_
            obtain rfl := e_some h52
            exact ⟨_, (), rfl, hd_mk trivial⟩
          ·
            replace h52 := e_f h52 hc55
            refine kwp_exit ?_
            refine ke_then ?_
            obtain rfl := e_some h52
            refine k_out ?_ rfl
            rintro rfl
            refine ke_block ?_
            exact ⟨(), hd_mk trivial⟩
        · intro l45 y63 _ h64
          refine kn_then ?_
          refine kwp_seq ?_
          refine kwp_region ?_
          refine kd (v_mv) ?_
          refine kd (v_bd [(0, _), (1, _)] [_, _] Tryd.zeroValue31 Tryd.runUnderlying31 pl_31) ?_
          refine kk (s_B (e' := [.int .i64 1, .slice (some a44) j43 j43]) Tryd.sizeOf31 ?_)
          refine kd (v_as) ?_
          refine kops_nil ?_
          refine kn_then ?_
          refine k_len (c := j43) (fun hl65 => ?_)
          subst hl65
          refine kwp_ret ?_
          obtain rfl := e_some h64
          refine rc1 Tryd.isAgg31 Tryd.sizeOf31 [⟨.slice (some a44) (l45.length) (l45.length), 3, l45.map encWay⟩] ?_
          exact ⟨some a44, (l45.length), rfl, rfl⟩

set_option maxRecDepth 20000 in
set_option maxHeartbeats 2000000 in
theorem w_spec_TreeFix (s01a : Option Addr) (s01n : Nat) (s01c : Nat) (tree0a : Option Addr) (tree0n : Nat) (tree0c : Nat) {s0 : Survey} {tree0 : List Int} {r : Fix × Bool} (h : p_spec_TreeFix s0 tree0 = some r) :
    Triple Tryd.prog 17 [.agg #[.int .i64 s0.st, .slice s01a s01n s01c], .slice tree0a tree0n tree0c] [⟨.slice s01a s01n s01c, 5, s0.legs.map encLeg⟩, ⟨.slice tree0a tree0n tree0c, 1, tree0.map encI⟩] [] (fun v ch => ∃ (w01a : Option Addr) (w01c : Nat), v = .tuple #[.agg #[.int .i64 r.1.den, .slice w01a r.1.nums.length w01c], .bool r.2] ∧ ch = [⟨.slice w01a r.1.nums.length w01c, 3, r.1.nums.map encWay⟩]) := by
  refine triple_start 104 Tryd.func17 Tryd.ntmps17 rfl rfl (fun w0 => ?_)
  refine k_len (c := s01c) (fun hl1 => ?_)
  subst hl1
  refine k_len (c := tree0c) (fun hl2 => ?_)
  subst hl2
  unfold p_spec_TreeFix at h
  refine kwp_seq ?_
  refine kwp_region ?_
  refine kk (n_box (e := [.int .i64 s0.st, .slice s01a s0.legs.length s01c]) 2 (fun p2_3 => ?_))
  refine kops_nilchunk 3 (by decide) ?_
  refine kk (n_alloc (e := [.int .i64 0, .slice none 0 0]) 2 Tryd.zeroValue31 (fun p4_4 => ?_))
  refine kd (v_as) ?_
  refine kops_nil ?_
  refine kn_then ?_
  refine kwp_seq ?_
  refine kwp_region ?_
  refine kd (v_ldB Tryd.isAgg25 Tryd.sizeOf25) ?_
  obtain ⟨v6, hv5, h⟩ := e_bind h
  refine kk (n_call Tryd.call48 (w_spec_TreesAll s01a s0.legs.length s01c hv5) ?_)
  rintro _ _ ⟨q7a, q7c, q7R, rfl, hq7R, rfl⟩
  refine kd (v_as) ?_
  refine kops_nil ?_
  refine kn_then ?_
  refine kwp_seq ?_
  refine kwp_region ?_
  refine kd (v_as) ?_
  refine kops_nil ?_
  refine kn_then ?_
  refine kwp_seq ?_
  refine kwp_seq ?_
  refine kwp_region ?_
  refine kd (v_as) ?_
  refine kops_nil ?_
  refine kn_then ?_
  refine kwp_cutE (inv := [(1, .slice tree0a tree0.length tree0c), (2, .pointer (some p2_3)), (4, .pointer (some p4_4))]) (fun (z : Bool) (y : Unit) => [(7, .bool z)]) (fun (z : Bool) (y : Unit) => [⟨.pointer (some p2_3), 2, [[.int .i64 s0.st, .slice s01a s0.legs.length s01c]]⟩, ⟨.pointer (some p4_4), 2, [[.int .i64 0, .slice none 0 0]]⟩, ⟨.slice none 0 0, 3, ([] : List Way).map encWay⟩]) (fun _ _ => True) h ?_ ?_
  · intro t11 h9
    refine kwp_block ?_
    refine kwp_loopE (inv := [(1, .slice tree0a tree0.length tree0c), (2, .pointer (some p2_3)), (4, .pointer (some p4_4)), (6, .slice q7a v6.length q7c)]) (fun (z : Bool × Int) (y : Unit) => [(7, .bool z.1), (8, .int .i64 z.2)]) (fun (z : Bool × Int) (y : Unit) => (⟨.pointer (some p2_3), 2, [[.int .i64 s0.st, .slice s01a s0.legs.length s01c]]⟩ :: ⟨.pointer (some p4_4), 2, [[.int .i64 0, .slice none 0 0]]⟩ :: ⟨.slice none 0 0, 3, ([] : List Way).map encWay⟩ :: ⟨.slice q7a v6.length q7c, 1, q7R.map encRow⟩ :: (rowsC q7R))) (fun _ _ => True) h9 ⟨(), hd_mk trivial⟩ ?_
    intro z16 y17 b14 _ h15
    obtain ⟨found12, k13⟩ := z16
    unfold p_spec_TreeFix_L0 at h15
    refine kwp_seq ?_
    refine kwp_seq ?_
    refine kwp_region ?_
    refine kd (v_mv) ?_
    refine kd (v_mv) ?_
    refine kd (v_len Tryd.runUnderlying51) ?_
    refine kd (v_cmp) ?_
    refine kops_nil ?_
    refine kn_then ?_
    refine kwp_cond rfl (fun hc18 => ?_) (fun hc18 => ?_)
    ·
      replace h15 := e_t h15 hc18
      refine kwp_skip ?_
      refine kn_then ?_
      refine kwp_seq ?_
      refine kwp_block ?_
      refine kwp_seq ?_
      refine kwp_region ?_
      refine kd (v_mv) ?_
      refine kd (v_mv) ?_
      obtain ⟨j19, ej19, nj19, h15⟩ := e_idx h15
      refine kd (v_ia ej19 nj19 Tryd.runUnderlying51 Tryd.sizeOf26) ?_
      refine kd (v_ldr nj19 hq7R Tryd.isAgg26) ?_
      refine kd (v_len Tryd.runUnderlying26) ?_
      refine kd (v_mv) ?_
      refine kd (v_len Tryd.runUnderlying26) ?_
      refine kd (v_cmp) ?_
      refine kd (v_as) ?_
      refine kops_nil ?_
      refine kn_then ?_
      refine kwp_seq ?_
      refine kwp_seq ?_
      refine kwp_region ?_
      refine kd (v_as) ?_
      refine kops_nil ?_
      refine kn_then ?_
      refine kwp_cutE (inv := [(1, .slice tree0a tree0.length tree0c), (2, .pointer (some p2_3)), (4, .pointer (some p4_4)), (6, .slice q7a v6.length q7c), (7, .bool found12), (8, .int .i64 k13)]) (fun (z : Bool) (y : Unit) => [(9, .bool z)]) (fun (z : Bool) (y : Unit) => (⟨.pointer (some p2_3), 2, [[.int .i64 s0.st, .slice s01a s0.legs.length s01c]]⟩ :: ⟨.pointer (some p4_4), 2, [[.int .i64 0, .slice none 0 0]]⟩ :: ⟨.slice none 0 0, 3, ([] : List Way).map encWay⟩ :: ⟨.slice q7a v6.length q7c, 1, q7R.map encRow⟩ :: (rowsC q7R))) (fun _ _ => True) h15 ?_ ?_
      · intro t23 h21
        refine kwp_block ?_
        refine kwp_loopE (inv := [(1, .slice tree0a tree0.length tree0c), (2, .pointer (some p2_3)), (4, .pointer (some p4_4)), (6, .slice q7a v6.length q7c), (7, .bool found12), (8, .int .i64 k13)]) (fun (z : Bool × Int) (y : Unit) => [(9, .bool z.1), (10, .int .i64 z.2)]) (fun (z : Bool × Int) (y : Unit) => (⟨.pointer (some p2_3), 2, [[.int .i64 s0.st, .slice s01a s0.legs.length s01c]]⟩ :: ⟨.pointer (some p4_4), 2, [[.int .i64 0, .slice none 0 0]]⟩ :: ⟨.slice none 0 0, 3, ([] : List Way).map encWay⟩ :: ⟨.slice q7a v6.length q7c, 1, q7R.map encRow⟩ :: (rowsC q7R))) (fun _ _ => True) h21 ⟨(), hd_mk trivial⟩ ?_
        intro z28 y29 b26 _ h27
        obtain ⟨same24, j25⟩ := z28
        unfold p_spec_TreeFix_L1 at h27
        refine kwp_seq ?_
        refine kwp_seq ?_
        refine kwp_cutE (inv := [(1, .slice tree0a tree0.length tree0c), (2, .pointer (some p2_3)), (4, .pointer (some p4_4)), (6, .slice q7a v6.length q7c), (7, .bool found12), (8, .int .i64 k13), (9, .bool same24), (10, .int .i64 j25)]) (fun (z : Bool) (y : Unit) => [(40, .bool z)]) (fun (z : Bool) (y : Unit) => (⟨.pointer (some p2_3), 2, [[.int .i64 s0.st, .slice s01a s0.legs.length s01c]]⟩ :: ⟨.pointer (some p4_4), 2, [[.int .i64 0, .slice none 0 0]]⟩ :: ⟨.slice none 0 0, 3, ([] : List Way).map encWay⟩ :: ⟨.slice q7a v6.length q7c, 1, q7R.map encRow⟩ :: (rowsC q7R))) (fun _ _ => True) h27 ?_ ?_
        · intro t33 h31
          refine kwp_region ?_
          refine kd (v_mv) ?_
          refine kd (v_mv) ?_
          refine kd (v_len Tryd.runUnderlying26) ?_
          refine kd (v_cmp) ?_
          refine kd (v_mv) ?_
          refine kops_split 38 rfl (fun hb34 => ?_) (fun hb34 => ?_)
          ·
            replace h31 := e_t h31 hb34
            refine kgd hb34 (v_mv) ?_
            refine kd (v_pt hb34) ?_
            refine kops_nil ?_
            refine kn_then ?_
            obtain rfl := e_some h31
            exact ⟨(), hd_mk trivial⟩
          ·
            replace h31 := e_f h31 hb34
            refine kskip hb34 ?_
            refine kd (v_pf hb34) ?_
            refine kops_nil ?_
            refine kn_then ?_
            obtain rfl := e_some h31
            exact ⟨(), hd_mk trivial⟩
        · intro x30 y36 _ h37
          refine kn_then ?_
          refine kwp_cond rfl (fun hc38 => ?_) (fun hc38 => ?_)
          ·
            replace h37 := e_t h37 hc38
            refine kwp_skip ?_
            refine kn_then ?_
            refine kwp_seq ?_
            refine kwp_block ?_
            obtain ⟨j39, ej39, nj39, h37⟩ := e_idx h37
            obtain ⟨j40, ej40, nj40, h37⟩ := e_idx h37
            obtain ⟨j41, ej41, nj41, h37⟩ := e_idx h37
            refine kwp_tree (.quiet 0 (.quiet 1 (.quiet 2 (.quiet 3 (.quiet 4 (.quiet 5 (.quiet 6 (.quiet 7 (.quiet 8 (.quiet 9 (.quiet 10 (.quiet 11 (.quiet 12 .stop))))))))))))) [] (⟨.slice q7a v6.length q7c, 1, q7R.map encRow⟩ :: (rowsC q7R)) drawMixed (by kernel_rfl) nopan (by (repeat (first | exact Sub.refl _ | exact Sub.nil _ | refine Sub.chunk (by repeat (first | exact Pick.here | apply Pick.there | apply Pick.seg)) (by rfl) ?_ | refine Sub.seg (by repeat (first | exact PickSeg.here | exact PickSeg.all | apply PickSeg.there | apply PickSeg.seg)) ?_ | exact Sub.seg0 (by repeat (first | exact PickSeg.here | exact PickSeg.all | apply PickSeg.there | apply PickSeg.seg)) | apply Sub.assoc))) ?_
            refine kt_d rfl rfl rfl (v_mv) ?_
            refine kt_d rfl rfl rfl (v_mv) ?_
            refine kt_d rfl rfl rfl (v_ia ej39 nj39 Tryd.runUnderlying51 Tryd.sizeOf26) ?_
            refine kt_d rfl rfl rfl (v_ldr nj39 hq7R Tryd.isAgg26) ?_
            refine kt_d rfl rfl rfl (v_mv) ?_
            refine kt_d rfl rfl rfl (v_ia ej40 nj40 Tryd.runUnderlying26 Tryd.sizeOf3 (hm := by repeat (first | exact mr hq7R (by first | exact nj39 | (simpa using nj39) | omega | (simp only [List.length_set]; omega)) | exact mr0 hq7R (by first | exact nj39 | (simpa using nj39) | omega | (simp only [List.length_set]; omega)) | apply mt | apply mas | apply ms))) ?_
            refine kt_d rfl rfl rfl (v_ldf nj40 Tryd.isAgg3 (hm := by repeat (first | exact mr hq7R (by first | exact nj39 | (simpa using nj39) | omega | (simp only [List.length_set]; omega)) | exact mr0 hq7R (by first | exact nj39 | (simpa using nj39) | omega | (simp only [List.length_set]; omega)) | apply mt | apply mas | apply ms))) ?_
            refine kt_d rfl rfl rfl (v_mv) ?_
            refine kt_d rfl rfl rfl (v_mv) ?_
            refine kt_d rfl rfl rfl (v_ia ej41 nj41 Tryd.runUnderlying26 Tryd.sizeOf3) ?_
            refine kt_d rfl rfl rfl (v_ldf nj41 Tryd.isAgg3) ?_
            refine kt_d rfl rfl rfl (v_cmp) ?_
            refine kt_d rfl rfl rfl (v_as) ?_
            refine kt_nil ?_
            refine kn_block ?_
            refine kn_then ?_
            refine kwp_region ?_
            refine kd (v_mv) ?_
            refine kd (v_add) ?_
            refine kd (v_as) ?_
            refine kops_nil ?_
            refine kn_then ?_
            obtain rfl := e_some h37
            exact ⟨_, (), rfl, hd_mk trivial⟩
          ·
            replace h37 := e_f h37 hc38
            refine kwp_exit ?_
            refine ke_then ?_
            obtain rfl := e_some h37
            refine k_out ?_ rfl
            rintro rfl
            refine ke_block ?_
            exact ⟨(), hd_mk trivial⟩
      · intro same20 y43 _ h44
        refine kn_then ?_
        refine kwp_region ?_
        refine kd (v_mv) ?_
        refine kd (v_mv) ?_
        refine kops_split 56 rfl (fun hb45 => ?_) (fun hb45 => ?_)
        ·
          replace h44 := e_t h44 hb45
          refine kskip hb45 ?_
          refine kd (v_pt hb45) ?_
          refine kd (v_as) ?_
          refine kops_nil ?_
          refine kn_block ?_
          refine kn_then ?_
          refine kwp_region ?_
          refine kd (v_mv) ?_
          refine kd (v_add) ?_
          refine kd (v_as) ?_
          refine kops_nil ?_
          refine kn_then ?_
          obtain rfl := e_some h44
          exact ⟨_, (), rfl, hd_mk trivial⟩
        ·
          replace h44 := e_f h44 hb45
          refine kgd hb45 (v_mv) ?_
          refine kd (v_pf hb45) ?_
          refine kd (v_as) ?_
          refine kops_nil ?_
          refine kn_block ?_
          refine kn_then ?_
          refine kwp_region ?_
          refine kd (v_mv) ?_
          refine kd (v_add) ?_
          refine kd (v_as) ?_
          refine kops_nil ?_
          refine kn_then ?_
          obtain rfl := e_some h44
          exact ⟨_, (), rfl, hd_mk trivial⟩
    ·
      replace h15 := e_f h15 hc18
      refine kwp_exit ?_
      refine ke_then ?_
      obtain rfl := e_some h15
      refine k_out ?_ rfl
      rintro rfl
      refine ke_block ?_
      exact ⟨(), hd_mk trivial⟩
  · intro found8 y47 _ h48
    refine kn_then ?_
    refine kwp_seq ?_
    refine kwp_seq ?_
    refine kwp_region ?_
    refine kd (v_mv) ?_
    refine kd (v_not) ?_
    refine kops_nil ?_
    refine kn_then ?_
    refine kwp_cond rfl (fun hc49 => ?_) (fun hc49 => ?_)
    ·
      replace h48 := e_t h48 hc49
      refine kwp_seq ?_
      refine kwp_region ?_
      refine kops_nilchunk 3 (by decide) ?_
      refine kd (v_bd [] [.int .i64 0, .slice none 0 0] Tryd.zeroValue31 Tryd.runUnderlying31 pl_31) ?_
      refine kk (s_B (e' := [.int .i64 0, .slice none 0 0]) Tryd.sizeOf31 ?_)
      refine kd (v_as) ?_
      refine kops_nil ?_
      refine kn_then ?_
      refine kwp_ret ?_
      refine kr_then ?_
      obtain rfl := e_some h48
      refine rc1 Tryd.isAgg31 Tryd.sizeOf31 [⟨.slice none 0 0, 3, ([] : List Way).map encWay⟩] ?_
      exact ⟨none, 0, rfl, rfl⟩
    ·
      replace h48 := e_f h48 hc49
      refine kwp_skip ?_
      refine kn_then ?_
      refine kwp_seq ?_
      refine kwp_region ?_
      refine kk (n_lit (enc := encLeg) [] ([] : List Leg) Tryd.runUnderlying23 Tryd.sizeOf48 Tryd.zeroValue48 (fun a50 => ?_))
      refine kd (v_as) ?_
      refine kops_nil ?_
      refine kn_then ?_
      refine kwp_seq ?_
      refine kwp_seq ?_
      refine kwp_region ?_
      refine kd (v_as) ?_
      refine kops_nil ?_
      refine kn_then ?_
      refine kwp_cutE (inv := [(2, .pointer (some p2_3)), (4, .pointer (some p4_4))]) (fun (z : List Leg) (y : Option Addr × Nat × Nat) => [(11, .slice y.1 y.2.1 y.2.2)]) (fun (z : List Leg) (y : Option Addr × Nat × Nat) => [⟨.slice y.1 y.2.1 y.2.2, 5, z.map encLeg⟩, ⟨.pointer (some p2_3), 2, [[.int .i64 s0.st, .slice s01a s0.legs.length s01c]]⟩, ⟨.pointer (some p4_4), 2, [[.int .i64 0, .slice none 0 0]]⟩, ⟨.slice none 0 0, 3, ([] : List Way).map encWay⟩]) (fun _ _ => True) h48 ?_ ?_
      · intro t54 h52
        refine kwp_block ?_
        refine kwp_loopE (inv := [(1, .slice tree0a tree0.length tree0c), (2, .pointer (some p2_3)), (4, .pointer (some p4_4))]) (fun (z : List Leg × Int) (y : Option Addr × Nat × Nat) => [(11, .slice y.1 y.2.1 y.2.2), (12, .int .i64 z.2)]) (fun (z : List Leg × Int) (y : Option Addr × Nat × Nat) => [⟨.slice y.1 y.2.1 y.2.2, 5, z.1.map encLeg⟩, ⟨.pointer (some p2_3), 2, [[.int .i64 s0.st, .slice s01a s0.legs.length s01c]]⟩, ⟨.pointer (some p4_4), 2, [[.int .i64 0, .slice none 0 0]]⟩, ⟨.slice none 0 0, 3, ([] : List Way).map encWay⟩]) (fun _ _ => True) h52 ⟨(some a50, 0, 0), hd_mk trivial⟩ ?_
        intro z59 y60 b57 _ h58
        obtain ⟨legs55, k56⟩ := z59
        obtain ⟨legs55a, legs55n, legs55c⟩ := y60
        refine k_len (c := legs55c) (fun hl61 => ?_)
        subst hl61
        unfold p_spec_TreeFix_L2 at h58
        refine kwp_seq ?_
        refine kwp_seq ?_
        refine kwp_region ?_
        refine kd (v_mv) ?_
        refine kd (v_mv) ?_
        refine kd (v_len Tryd.runUnderlying26) ?_
        refine kd (v_cmp) ?_
        refine kops_nil ?_
        refine kn_then ?_
        refine kwp_cond rfl (fun hc62 => ?_) (fun hc62 => ?_)
        ·
          replace h58 := e_t h58 hc62
          refine kwp_skip ?_
          refine kn_then ?_
          refine kwp_seq ?_
          refine kwp_block ?_
          obtain ⟨j63, ej63, nj63, h58⟩ := e_idx h58
          obtain ⟨j64, ej64, nj64, h58⟩ := e_idx h58
          obtain ⟨hz66, h58⟩ := e_need h58
          refine kwp_tree (.quiet 0 (.quiet 1 (.quiet 2 (.quiet 3 (.quiet 4 (.quiet 5 (.quiet 6 (.quiet 7 (.quiet 8 (.one 9 (.one 10 (.quiet 11 .stop)))))))))))) [] [⟨.pointer (some p2_3), 2, [[.int .i64 s0.st, .slice s01a s0.legs.length s01c]]⟩] drawMixed (by kernel_rfl) nopan (by (repeat (first | exact Sub.refl _ | exact Sub.nil _ | refine Sub.chunk (by repeat (first | exact Pick.here | apply Pick.there | apply Pick.seg)) (by rfl) ?_ | refine Sub.seg (by repeat (first | exact PickSeg.here | exact PickSeg.all | apply PickSeg.there | apply PickSeg.seg)) ?_ | exact Sub.seg0 (by repeat (first | exact PickSeg.here | exact PickSeg.all | apply PickSeg.there | apply PickSeg.seg)) | apply Sub.assoc))) ?_
          refine kt_d rfl rfl rfl (v_mv) ?_
          refine kt_d rfl rfl rfl (v_fb fa_25_1) ?_
          refine kt_d rfl rfl rfl (v_ldb Tryd.isAgg23) ?_
          refine kt_d rfl rfl rfl (v_mv) ?_
          refine kt_d rfl rfl rfl (v_mv) ?_
          refine kt_d rfl rfl rfl (v_ia ej63 nj63 Tryd.runUnderlying26 Tryd.sizeOf3) ?_
          refine kt_d rfl rfl rfl (v_ldf nj63 Tryd.isAgg3) ?_
          refine kt_d rfl rfl rfl (v_ia ej64 nj64 Tryd.runUnderlying23 Tryd.sizeOf48) ?_
          refine kt_d rfl rfl rfl (v_lda (e := [_, _, _, _, _]) nj64 Tryd.isAgg48 Tryd.sizeOf48) ?_
          refine kt_one ?_
          refine kl_k rfl rfl (n_lit (enc := encLeg) [_] ([gx s0.legs j64] : List Leg) Tryd.runUnderlying23 Tryd.sizeOf48 Tryd.zeroValue48 (fun a65 => ?_))
          refine ⟨.inl (by (repeat (first | exact Sub.refl _ | exact Sub.nil _ | refine Sub.chunk (by repeat (first | exact Pick.here | apply Pick.there | apply Pick.seg)) (by rfl) ?_ | refine Sub.seg (by repeat (first | exact PickSeg.here | exact PickSeg.all | apply PickSeg.there | apply PickSeg.seg)) ?_ | exact Sub.seg0 (by repeat (first | exact PickSeg.here | exact PickSeg.all | apply PickSeg.there | apply PickSeg.seg)) | apply Sub.assoc))), ?_⟩
          refine kt_one ?_
          refine kl_k rfl rfl (n_app (enc := encLeg) ok_encLeg hz66 Tryd.underlying23 Tryd.type48 (by decide) (fun a67 c68 => ?_))
          refine ⟨.inl (by (repeat (first | exact Sub.refl _ | exact Sub.nil _ | refine Sub.chunk (by repeat (first | exact Pick.here | apply Pick.there | apply Pick.seg)) (by rfl) ?_ | refine Sub.seg (by repeat (first | exact PickSeg.here | exact PickSeg.all | apply PickSeg.there | apply PickSeg.seg)) ?_ | exact Sub.seg0 (by repeat (first | exact PickSeg.here | exact PickSeg.all | apply PickSeg.there | apply PickSeg.seg)) | apply Sub.assoc))), ?_⟩
          refine kt_d rfl rfl rfl (v_as) ?_
          refine kt_nil ?_
          refine kn_block ?_
          refine kn_then ?_
          refine kwp_region ?_
          refine kd (v_mv) ?_
          refine kd (v_add) ?_
          refine kd (v_as) ?_
          refine kops_nil ?_
          refine kn_then ?_
          obtain rfl := e_some h58
          exact ⟨_, (a67, (legs55 ++ ([gx s0.legs j64] : List Leg)).length, c68), rfl, hd_mk trivial⟩
        ·
          replace h58 := e_f h58 hc62
          refine kwp_exit ?_
          refine ke_then ?_
          obtain rfl := e_some h58
          refine k_out ?_ rfl
          rintro rfl
          refine ke_block ?_
          exact ⟨(legs55a, legs55.length, legs55c), hd_mk trivial⟩
      · intro legs51 y70 _ h71
        obtain ⟨legs51a, legs51n, legs51c⟩ := y70
        refine k_len (c := legs51c) (fun hl72 => ?_)
        subst hl72
        refine kwp_seq ?_
        refine kwp_region ?_
        refine kd (v_fb fa_25_0) ?_
        refine kd (v_ldb Tryd.isAgg3) ?_
        refine kd (v_mv) ?_
        refine kd (v_bd [(0, _), (1, _)] [_, _] Tryd.zeroValue25 Tryd.runUnderlying25 pl_25) ?_
        refine kops_nilchunk 5 (by decide) ?_
        refine kk (n_alloc (e := [.int .i64 0, .slice none 0 0]) 2 Tryd.zeroValue25 (fun p13_73 => ?_))
        refine kk (s_B (e' := [.int .i64 s0.st, .slice legs51a legs51.length legs51c]) Tryd.sizeOf25 ?_)
        refine kops_nil ?_
        refine kn_then ?_
        refine kwp_seq ?_
        refine kwp_region ?_
        refine kops_nilchunk 3 (by decide) ?_
        refine kd (v_bd [(0, _)] [_, .slice none 0 0] Tryd.zeroValue31 Tryd.runUnderlying31 pl_31) ?_
        refine kops_nilchunk 3 (by decide) ?_
        refine kk (n_alloc (e := [.int .i64 0, .slice none 0 0]) 2 Tryd.zeroValue31 (fun p14_74 => ?_))
        refine kk (s_B (e' := [.int .i64 1, .slice none 0 0]) Tryd.sizeOf31 ?_)
        refine kops_nil ?_
        refine kn_then ?_
        refine kwp_seq ?_
        refine kwp_seq ?_
        refine kwp_region ?_
        refine kd (v_as) ?_
        refine kops_nil ?_
        refine kn_then ?_
        refine kwp_cutE (inv := [(4, .pointer (some p4_4)), (14, .pointer (some p14_74))]) (fun (z : List Way) (y : Option Addr × Nat × Nat) => []) (fun (z : List Way) (y : Option Addr × Nat × Nat) => [⟨.pointer (some p14_74), 2, [[.int .i64 1, .slice y.1 y.2.1 y.2.2]]⟩, ⟨.slice y.1 y.2.1 y.2.2, 3, z.map encWay⟩, ⟨.pointer (some p4_4), 2, [[.int .i64 0, .slice none 0 0]]⟩, ⟨.slice none 0 0, 3, ([] : List Way).map encWay⟩]) (fun _ _ => True) h71 ?_ ?_
        · intro t78 h76
          refine kwp_block ?_
          refine kwp_loopE (inv := [(2, .pointer (some p2_3)), (4, .pointer (some p4_4)), (13, .pointer (some p13_73)), (14, .pointer (some p14_74))]) (fun (z : Int × List Way) (y : Option Addr × Nat × Nat) => [(15, .int .i64 z.1)]) (fun (z : Int × List Way) (y : Option Addr × Nat × Nat) => [⟨.pointer (some p14_74), 2, [[.int .i64 1, .slice y.1 y.2.1 y.2.2]]⟩, ⟨.slice y.1 y.2.1 y.2.2, 3, z.2.map encWay⟩, ⟨.pointer (some p2_3), 2, [[.int .i64 s0.st, .slice s01a s0.legs.length s01c]]⟩, ⟨.pointer (some p4_4), 2, [[.int .i64 0, .slice none 0 0]]⟩, ⟨.slice none 0 0, 3, ([] : List Way).map encWay⟩, ⟨.pointer (some p13_73), 2, [[.int .i64 s0.st, .slice legs51a legs51.length legs51c]]⟩, ⟨.slice legs51a (legs51.length) legs51c, 5, legs51.map encLeg⟩]) (fun _ _ => True) h76 ⟨(none, 0, 0), hd_mk trivial⟩ ?_
          intro z83 y84 b81 _ h82
          obtain ⟨k79, nums80⟩ := z83
          obtain ⟨nums80a, nums80n, nums80c⟩ := y84
          refine k_len (c := nums80c) (fun hl85 => ?_)
          subst hl85
          unfold p_spec_TreeFix_L3 at h82
          refine kwp_seq ?_
          refine kwp_seq ?_
          refine kwp_region ?_
          refine kd (v_mv) ?_
          refine kd (v_fb fa_25_0) ?_
          refine kd (v_ldb Tryd.isAgg3) ?_
          refine kd (v_cmp) ?_
          refine kops_nil ?_
          refine kn_then ?_
          refine kwp_cond rfl (fun hc86 => ?_) (fun hc86 => ?_)
          ·
            replace h82 := e_t h82 hc86
            refine kwp_skip ?_
            refine kn_then ?_
            refine kwp_seq ?_
            refine kwp_block ?_
            refine kwp_seq ?_
            refine kwp_region ?_
            refine kd (v_ldB Tryd.isAgg25 Tryd.sizeOf25) ?_
            refine kd (v_mv) ?_
            obtain ⟨⟨v88, v89⟩, hv87, h82⟩ := e_bind h82
            refine kk (n_call Tryd.call73 (w_spec_TreePlace legs51a legs51.length legs51c hv87) ?_)
            rintro _ _ ⟨rfl, rfl⟩
            refine kd (v_mv) ?_
            refine kd (v_ex) ?_
            refine kd (v_ex) ?_
            refine kk (n_alloc (e := [.int .i64 0, .int .i64 0, .int .i64 0]) 3 Tryd.zeroValue37 (fun p16_92 => ?_))
            refine kk (s_B (e' := [.int .i64 v88.e, .int .i64 v88.n, .int .i64 v88.u]) Tryd.sizeOf37 ?_)
            refine kd (v_as) ?_
            refine kops_nil ?_
            refine kn_then ?_
            refine kwp_region ?_
            refine kd (v_fb fa_31_1) ?_
            refine kd (v_ldb Tryd.isAgg29) ?_
            refine kd (v_ldB Tryd.isAgg37 Tryd.sizeOf37) ?_
            refine kk (n_lit (enc := encWay) [_] ([(⟨v88.e, v88.n, v88.u⟩ : Way)] : List Way) Tryd.runUnderlying29 Tryd.sizeOf37 Tryd.zeroValue37 (fun a93 => ?_))
            obtain ⟨hz94, h82⟩ := e_need h82
            refine kk (n_app (enc := encWay) ok_encWay hz94 Tryd.underlying29 Tryd.type37 (by decide) (fun a95 c96 => ?_))
            refine kd (v_fb fa_31_1) ?_
            refine kk (s_b (e' := [.int .i64 1, .slice a95 ((nums80 ++ ([(⟨v88.e, v88.n, v88.u⟩ : Way)] : List Way)).length) c96]) Tryd.sizeOf29 ?_)
            refine kops_nil ?_
            refine kn_block ?_
            refine kn_then ?_
            refine kwp_region ?_
            refine kd (v_mv) ?_
            refine kd (v_add) ?_
            refine kd (v_as) ?_
            refine kops_nil ?_
            refine kn_then ?_
            obtain rfl := e_some h82
            exact ⟨_, (a95, (nums80 ++ ([(⟨v88.e, v88.n, v88.u⟩ : Way)] : List Way)).length, c96), rfl, hd_mk trivial⟩
          ·
            replace h82 := e_f h82 hc86
            refine kwp_exit ?_
            refine ke_then ?_
            obtain rfl := e_some h82
            refine k_out ?_ rfl
            rintro rfl
            refine ke_block ?_
            exact ⟨(nums80a, nums80.length, nums80c), hd_mk trivial⟩
        · intro nums75 y98 _ h99
          obtain ⟨nums75a, nums75n, nums75c⟩ := y98
          refine k_len (c := nums75c) (fun hl100 => ?_)
          subst hl100
          refine kwp_seq ?_
          refine kwp_region ?_
          refine kd (v_ldB Tryd.isAgg31 Tryd.sizeOf31) ?_
          refine kk (s_B (e' := [.int .i64 1, .slice nums75a nums75.length nums75c]) Tryd.sizeOf31 ?_)
          refine kd (v_as) ?_
          refine kops_nil ?_
          refine kn_then ?_
          refine kwp_ret ?_
          obtain rfl := e_some h99
          refine rc1 Tryd.isAgg31 Tryd.sizeOf31 [⟨.slice nums75a (nums75.length) nums75c, 3, nums75.map encWay⟩] ?_
          exact ⟨nums75a, nums75c, rfl, rfl⟩

end Go.Proofs.YtnibfmofkamjoaaDoor
