/- What the plain programs return, the functions of the program return; no condition. -/
import Derived.Test.YtkhjbfngafebeaaZQ
import Derived.Test.YtkhjbfngafebeaaZFa
import Derived.Test.YtkhjbfngafebeaaZVbj
namespace Go.Proofs.Ytkhjbfngafebeaa
open Go
set_option linter.unusedVariables false
set_option linter.unusedSimpArgs false

set_option maxRecDepth 20000 in
set_option maxHeartbeats 2000000 in
theorem w_impl_Adjust (s01a : Option Addr) (s01n : Nat) (s01c : Nat) {s0 : Survey} {r : Fix × Bool} (h : p_impl_Adjust s0 = some r) :
    Triple Try.prog 9 [.agg #[.int .i64 s0.st, .slice s01a s01n s01c]] [⟨.slice s01a s01n s01c, 5, s0.legs.map encLeg⟩] [] (fun v ch => ∃ (w01a : Option Addr) (w01c : Nat), v = .tuple #[.agg #[.int .i64 r.1.den, .slice w01a r.1.nums.length w01c], .bool r.2] ∧ ch = [⟨.slice w01a r.1.nums.length w01c, 3, r.1.nums.map encWay⟩]) := by
  refine triple_start 159 Try.func9 Try.ntmps9 rfl rfl (fun w0 => ?_)
  refine k_len (c := s01c) (fun hl1 => ?_)
  subst hl1
  unfold p_impl_Adjust at h
  refine kwp_seq ?_
  refine kwp_region ?_
  refine kk (n_box (e := [.int .i64 s0.st, .slice s01a s0.legs.length s01c]) 2 (fun p1_2 => ?_))
  refine kops_nilchunk 3 (by decide) ?_
  refine kk (n_alloc (e := [.int .i64 0, .slice none 0 0]) 2 Try.zeroValue28 (fun p2_3 => ?_))
  refine kd (v_as) ?_
  refine kops_nil ?_
  refine kn_then ?_
  refine kwp_seq ?_
  refine kwp_seq ?_
  refine kwp_cutE (inv := [(1, .pointer (some p1_2)), (2, .pointer (some p2_3))]) (fun (z : Bool) (y : Unit) => [(26, .bool z)]) (fun (z : Bool) (y : Unit) => [⟨.pointer (some p1_2), 2, [[.int .i64 s0.st, .slice s01a s0.legs.length s01c]]⟩, ⟨.pointer (some p2_3), 2, [[.int .i64 0, .slice none 0 0]]⟩, ⟨.slice none 0 0, 3, ([] : List Way).map encWay⟩]) (fun _ _ => True) h ?_ ?_
  · intro t7 h5
    refine kwp_region ?_
    refine kd (v_ldB Try.isAgg33 Try.sizeOf33) ?_
    obtain ⟨v9, hv8, h5⟩ := e_bind h5
    refine kk (n_call Try.call29 (w_impl_SurveyValid s01a s0.legs.length s01c hv8) ?_)
    rintro _ _ ⟨rfl, rfl⟩
    refine kd (v_not) ?_
    refine kd (v_mv) ?_
    refine kops_split 22 rfl (fun hb11 => ?_) (fun hb11 => ?_)
    ·
      replace h5 := e_t h5 hb11
      refine kskip hb11 ?_
      refine kskip hb11 ?_
      refine kskip hb11 ?_
      refine kd (v_pt hb11) ?_
      refine kops_nil ?_
      refine kn_then ?_
      obtain rfl := e_some h5
      exact ⟨(), hd_mk trivial⟩
    ·
      replace h5 := e_f h5 hb11
      refine kgd hb11 (v_ldB Try.isAgg33 Try.sizeOf33) ?_
      obtain ⟨v13, hv12, h5⟩ := e_bind h5
      refine kgk hb11 (n_call Try.call30 (w_impl_PartsMany s01a s0.legs.length s01c hv12) ?_)
      rintro _ _ ⟨rfl, rfl⟩
      refine kgd hb11 (v_cmp) ?_
      refine kd (v_pf hb11) ?_
      refine kops_nil ?_
      refine kn_then ?_
      obtain rfl := e_some h5
      exact ⟨(), hd_mk trivial⟩
  · intro x4 y16 _ h17
    refine kn_then ?_
    refine kwp_cond rfl (fun hc18 => ?_) (fun hc18 => ?_)
    ·
      replace h17 := e_t h17 hc18
      refine kwp_seq ?_
      refine kwp_region ?_
      refine kops_nilchunk 3 (by decide) ?_
      refine kd (v_bd [] [.int .i64 0, .slice none 0 0] Try.zeroValue28 Try.runUnderlying28 pl_28) ?_
      refine kk (s_B (e' := [.int .i64 0, .slice none 0 0]) Try.sizeOf28 ?_)
      refine kd (v_as) ?_
      refine kops_nil ?_
      refine kn_then ?_
      refine kwp_ret ?_
      refine kr_then ?_
      obtain rfl := e_some h17
      refine rc1 Try.isAgg28 Try.sizeOf28 [⟨.slice none 0 0, 3, ([] : List Way).map encWay⟩] ?_
      exact ⟨none, 0, rfl, rfl⟩
    ·
      replace h17 := e_f h17 hc18
      refine kwp_skip ?_
      refine kn_then ?_
      refine kwp_seq ?_
      refine kwp_region ?_
      refine kd (v_fb fa_33_0) ?_
      refine kd (v_ldb Try.isAgg3) ?_
      refine kd (v_sub) ?_
      refine kd (v_as) ?_
      refine kops_nil ?_
      refine kn_then ?_
      refine kwp_seq ?_
      obtain ⟨j19, ej19, nj19, h17⟩ := e_sized h17
      obtain ⟨j21, ej21, nj21, h17⟩ := e_sized h17
      obtain ⟨j23, ej23, nj23, h17⟩ := e_sized h17
      refine kwp_cutS (inv := [(1, .pointer (some p1_2)), (2, .pointer (some p2_3)), (4, .int .i64 (w64 (s0.st - 1)))]) (fun (y : Addr × Addr × Addr) => [(5, .slice (some y.1) j19 j19), (6, .slice (some y.2.1) j21 j21), (7, .slice (some y.2.2) j23 j23)]) (fun (y : Addr × Addr × Addr) => [⟨.pointer (some p1_2), 2, [[.int .i64 s0.st, .slice s01a s0.legs.length s01c]]⟩, ⟨.pointer (some p2_3), 2, [[.int .i64 0, .slice none 0 0]]⟩, ⟨.slice none 0 0, 3, ([] : List Way).map encWay⟩, ⟨.slice (some y.1) j19 j19, 1, (List.replicate j19 0).map encI⟩, ⟨.slice (some y.2.1) j21 j21, 1, (List.replicate j21 0).map encI⟩, ⟨.slice (some y.2.2) j23 j23, 1, (List.replicate j23 0).map encI⟩]) (fun (y : Addr × Addr × Addr) => True) ?_ ?_
      ·
        refine kwp_tree (.quiet 0 (.quiet 2 (.quiet 4 (.three 1 (.quiet 6 (.two 3 (.quiet 7 (.one 5 (.quiet 8 .stop))) 5 (.one 3 (.quiet 7 (.quiet 8 .stop))))) 3 (.two 1 (.quiet 6 (.quiet 7 (.one 5 (.quiet 8 .stop)))) 5 (.one 1 (.quiet 6 (.quiet 7 (.quiet 8 .stop))))) 5 (.two 1 (.quiet 6 (.one 3 (.quiet 7 (.quiet 8 .stop)))) 3 (.one 1 (.quiet 6 (.quiet 7 (.quiet 8 .stop))))))))) [] [] drawMixed (by kernel_rfl) nopan (by (repeat (first | exact Sub.refl _ | exact Sub.nil _ | refine Sub.chunk (by repeat (first | exact Pick.here | apply Pick.there | apply Pick.seg)) (by rfl) ?_ | refine Sub.seg (by repeat (first | exact PickSeg.here | exact PickSeg.all | apply PickSeg.there | apply PickSeg.seg)) ?_ | exact Sub.seg0 (by repeat (first | exact PickSeg.here | exact PickSeg.all | apply PickSeg.there | apply PickSeg.seg)) | apply Sub.assoc))) ?_
        refine kt_d rfl rfl rfl (v_mv) ?_
        refine kt_d rfl rfl rfl (v_mv) ?_
        refine kt_d rfl rfl rfl (v_mv) ?_
        refine kt_three ?_ ?_ ?_
        ·
          refine kl_k rfl rfl (n_make (enc := encI) 0 ej19 nj19 Try.underlying40 Try.type3 (by decide) (fun a20 => ?_))
          refine ⟨.inl (by (repeat (first | exact Sub.refl _ | exact Sub.nil _ | refine Sub.chunk (by repeat (first | exact Pick.here | apply Pick.there | apply Pick.seg)) (by rfl) ?_ | refine Sub.seg (by repeat (first | exact PickSeg.here | exact PickSeg.all | apply PickSeg.there | apply PickSeg.seg)) ?_ | exact Sub.seg0 (by repeat (first | exact PickSeg.here | exact PickSeg.all | apply PickSeg.there | apply PickSeg.seg)) | apply Sub.assoc))), ?_⟩
          refine kt_d rfl rfl rfl (v_as) ?_
          refine kt_two ?_ ?_
          ·
            refine kl_k rfl rfl (n_make (enc := encI) 0 ej21 nj21 Try.underlying40 Try.type3 (by decide) (fun a22 => ?_))
            refine ⟨.inl (by (repeat (first | exact Sub.refl _ | exact Sub.nil _ | refine Sub.chunk (by repeat (first | exact Pick.here | apply Pick.there | apply Pick.seg)) (by rfl) ?_ | refine Sub.seg (by repeat (first | exact PickSeg.here | exact PickSeg.all | apply PickSeg.there | apply PickSeg.seg)) ?_ | exact Sub.seg0 (by repeat (first | exact PickSeg.here | exact PickSeg.all | apply PickSeg.there | apply PickSeg.seg)) | apply Sub.assoc))), ?_⟩
            refine kt_d rfl rfl rfl (v_as) ?_
            refine kt_one ?_
            refine kl_k rfl rfl (n_make (enc := encI) 0 ej23 nj23 Try.underlying40 Try.type3 (by decide) (fun a24 => ?_))
            refine ⟨.inl (by (repeat (first | exact Sub.refl _ | exact Sub.nil _ | refine Sub.chunk (by repeat (first | exact Pick.here | apply Pick.there | apply Pick.seg)) (by rfl) ?_ | refine Sub.seg (by repeat (first | exact PickSeg.here | exact PickSeg.all | apply PickSeg.there | apply PickSeg.seg)) ?_ | exact Sub.seg0 (by repeat (first | exact PickSeg.here | exact PickSeg.all | apply PickSeg.there | apply PickSeg.seg)) | apply Sub.assoc))), ?_⟩
            refine kt_d rfl rfl rfl (v_as) ?_
            refine kt_nil ?_
            refine kn_then ?_
            exact ⟨(a20, a22, a24), hd_mk trivial⟩
          ·
            refine kl_k rfl rfl (n_make (enc := encI) 0 ej23 nj23 Try.underlying40 Try.type3 (by decide) (fun a24 => ?_))
            refine ⟨.inl (by (repeat (first | exact Sub.refl _ | exact Sub.nil _ | refine Sub.chunk (by repeat (first | exact Pick.here | apply Pick.there | apply Pick.seg)) (by rfl) ?_ | refine Sub.seg (by repeat (first | exact PickSeg.here | exact PickSeg.all | apply PickSeg.there | apply PickSeg.seg)) ?_ | exact Sub.seg0 (by repeat (first | exact PickSeg.here | exact PickSeg.all | apply PickSeg.there | apply PickSeg.seg)) | apply Sub.assoc))), ?_⟩
            refine kt_one ?_
            refine kl_k rfl rfl (n_make (enc := encI) 0 ej21 nj21 Try.underlying40 Try.type3 (by decide) (fun a22 => ?_))
            refine ⟨.inl (by (repeat (first | exact Sub.refl _ | exact Sub.nil _ | refine Sub.chunk (by repeat (first | exact Pick.here | apply Pick.there | apply Pick.seg)) (by rfl) ?_ | refine Sub.seg (by repeat (first | exact PickSeg.here | exact PickSeg.all | apply PickSeg.there | apply PickSeg.seg)) ?_ | exact Sub.seg0 (by repeat (first | exact PickSeg.here | exact PickSeg.all | apply PickSeg.there | apply PickSeg.seg)) | apply Sub.assoc))), ?_⟩
            refine kt_d rfl rfl rfl (v_as) ?_
            refine kt_d rfl rfl rfl (v_as) ?_
            refine kt_nil ?_
            refine kn_then ?_
            exact ⟨(a20, a22, a24), hd_mk trivial⟩
        ·
          refine kl_k rfl rfl (n_make (enc := encI) 0 ej21 nj21 Try.underlying40 Try.type3 (by decide) (fun a22 => ?_))
          refine ⟨.inl (by (repeat (first | exact Sub.refl _ | exact Sub.nil _ | refine Sub.chunk (by repeat (first | exact Pick.here | apply Pick.there | apply Pick.seg)) (by rfl) ?_ | refine Sub.seg (by repeat (first | exact PickSeg.here | exact PickSeg.all | apply PickSeg.there | apply PickSeg.seg)) ?_ | exact Sub.seg0 (by repeat (first | exact PickSeg.here | exact PickSeg.all | apply PickSeg.there | apply PickSeg.seg)) | apply Sub.assoc))), ?_⟩
          refine kt_two ?_ ?_
          ·
            refine kl_k rfl rfl (n_make (enc := encI) 0 ej19 nj19 Try.underlying40 Try.type3 (by decide) (fun a20 => ?_))
            refine ⟨.inl (by (repeat (first | exact Sub.refl _ | exact Sub.nil _ | refine Sub.chunk (by repeat (first | exact Pick.here | apply Pick.there | apply Pick.seg)) (by rfl) ?_ | refine Sub.seg (by repeat (first | exact PickSeg.here | exact PickSeg.all | apply PickSeg.there | apply PickSeg.seg)) ?_ | exact Sub.seg0 (by repeat (first | exact PickSeg.here | exact PickSeg.all | apply PickSeg.there | apply PickSeg.seg)) | apply Sub.assoc))), ?_⟩
            refine kt_d rfl rfl rfl (v_as) ?_
            refine kt_d rfl rfl rfl (v_as) ?_
            refine kt_one ?_
            refine kl_k rfl rfl (n_make (enc := encI) 0 ej23 nj23 Try.underlying40 Try.type3 (by decide) (fun a24 => ?_))
            refine ⟨.inl (by (repeat (first | exact Sub.refl _ | exact Sub.nil _ | refine Sub.chunk (by repeat (first | exact Pick.here | apply Pick.there | apply Pick.seg)) (by rfl) ?_ | refine Sub.seg (by repeat (first | exact PickSeg.here | exact PickSeg.all | apply PickSeg.there | apply PickSeg.seg)) ?_ | exact Sub.seg0 (by repeat (first | exact PickSeg.here | exact PickSeg.all | apply PickSeg.there | apply PickSeg.seg)) | apply Sub.assoc))), ?_⟩
            refine kt_d rfl rfl rfl (v_as) ?_
            refine kt_nil ?_
            refine kn_then ?_
            exact ⟨(a20, a22, a24), hd_mk trivial⟩
          ·
            refine kl_k rfl rfl (n_make (enc := encI) 0 ej23 nj23 Try.underlying40 Try.type3 (by decide) (fun a24 => ?_))
            refine ⟨.inl (by (repeat (first | exact Sub.refl _ | exact Sub.nil _ | refine Sub.chunk (by repeat (first | exact Pick.here | apply Pick.there | apply Pick.seg)) (by rfl) ?_ | refine Sub.seg (by repeat (first | exact PickSeg.here | exact PickSeg.all | apply PickSeg.there | apply PickSeg.seg)) ?_ | exact Sub.seg0 (by repeat (first | exact PickSeg.here | exact PickSeg.all | apply PickSeg.there | apply PickSeg.seg)) | apply Sub.assoc))), ?_⟩
            refine kt_one ?_
            refine kl_k rfl rfl (n_make (enc := encI) 0 ej19 nj19 Try.underlying40 Try.type3 (by decide) (fun a20 => ?_))
            refine ⟨.inl (by (repeat (first | exact Sub.refl _ | exact Sub.nil _ | refine Sub.chunk (by repeat (first | exact Pick.here | apply Pick.there | apply Pick.seg)) (by rfl) ?_ | refine Sub.seg (by repeat (first | exact PickSeg.here | exact PickSeg.all | apply PickSeg.there | apply PickSeg.seg)) ?_ | exact Sub.seg0 (by repeat (first | exact PickSeg.here | exact PickSeg.all | apply PickSeg.there | apply PickSeg.seg)) | apply Sub.assoc))), ?_⟩
            refine kt_d rfl rfl rfl (v_as) ?_
            refine kt_d rfl rfl rfl (v_as) ?_
            refine kt_d rfl rfl rfl (v_as) ?_
            refine kt_nil ?_
            refine kn_then ?_
            exact ⟨(a20, a22, a24), hd_mk trivial⟩
        ·
          refine kl_k rfl rfl (n_make (enc := encI) 0 ej23 nj23 Try.underlying40 Try.type3 (by decide) (fun a24 => ?_))
          refine ⟨.inl (by (repeat (first | exact Sub.refl _ | exact Sub.nil _ | refine Sub.chunk (by repeat (first | exact Pick.here | apply Pick.there | apply Pick.seg)) (by rfl) ?_ | refine Sub.seg (by repeat (first | exact PickSeg.here | exact PickSeg.all | apply PickSeg.there | apply PickSeg.seg)) ?_ | exact Sub.seg0 (by repeat (first | exact PickSeg.here | exact PickSeg.all | apply PickSeg.there | apply PickSeg.seg)) | apply Sub.assoc))), ?_⟩
          refine kt_two ?_ ?_
          ·
            refine kl_k rfl rfl (n_make (enc := encI) 0 ej19 nj19 Try.underlying40 Try.type3 (by decide) (fun a20 => ?_))
            refine ⟨.inl (by (repeat (first | exact Sub.refl _ | exact Sub.nil _ | refine Sub.chunk (by repeat (first | exact Pick.here | apply Pick.there | apply Pick.seg)) (by rfl) ?_ | refine Sub.seg (by repeat (first | exact PickSeg.here | exact PickSeg.all | apply PickSeg.there | apply PickSeg.seg)) ?_ | exact Sub.seg0 (by repeat (first | exact PickSeg.here | exact PickSeg.all | apply PickSeg.there | apply PickSeg.seg)) | apply Sub.assoc))), ?_⟩
            refine kt_d rfl rfl rfl (v_as) ?_
            refine kt_one ?_
            refine kl_k rfl rfl (n_make (enc := encI) 0 ej21 nj21 Try.underlying40 Try.type3 (by decide) (fun a22 => ?_))
            refine ⟨.inl (by (repeat (first | exact Sub.refl _ | exact Sub.nil _ | refine Sub.chunk (by repeat (first | exact Pick.here | apply Pick.there | apply Pick.seg)) (by rfl) ?_ | refine Sub.seg (by repeat (first | exact PickSeg.here | exact PickSeg.all | apply PickSeg.there | apply PickSeg.seg)) ?_ | exact Sub.seg0 (by repeat (first | exact PickSeg.here | exact PickSeg.all | apply PickSeg.there | apply PickSeg.seg)) | apply Sub.assoc))), ?_⟩
            refine kt_d rfl rfl rfl (v_as) ?_
            refine kt_d rfl rfl rfl (v_as) ?_
            refine kt_nil ?_
            refine kn_then ?_
            exact ⟨(a20, a22, a24), hd_mk trivial⟩
          ·
            refine kl_k rfl rfl (n_make (enc := encI) 0 ej21 nj21 Try.underlying40 Try.type3 (by decide) (fun a22 => ?_))
            refine ⟨.inl (by (repeat (first | exact Sub.refl _ | exact Sub.nil _ | refine Sub.chunk (by repeat (first | exact Pick.here | apply Pick.there | apply Pick.seg)) (by rfl) ?_ | refine Sub.seg (by repeat (first | exact PickSeg.here | exact PickSeg.all | apply PickSeg.there | apply PickSeg.seg)) ?_ | exact Sub.seg0 (by repeat (first | exact PickSeg.here | exact PickSeg.all | apply PickSeg.there | apply PickSeg.seg)) | apply Sub.assoc))), ?_⟩
            refine kt_one ?_
            refine kl_k rfl rfl (n_make (enc := encI) 0 ej19 nj19 Try.underlying40 Try.type3 (by decide) (fun a20 => ?_))
            refine ⟨.inl (by (repeat (first | exact Sub.refl _ | exact Sub.nil _ | refine Sub.chunk (by repeat (first | exact Pick.here | apply Pick.there | apply Pick.seg)) (by rfl) ?_ | refine Sub.seg (by repeat (first | exact PickSeg.here | exact PickSeg.all | apply PickSeg.there | apply PickSeg.seg)) ?_ | exact Sub.seg0 (by repeat (first | exact PickSeg.here | exact PickSeg.all | apply PickSeg.there | apply PickSeg.seg)) | apply Sub.assoc))), ?_⟩
            refine kt_d rfl rfl rfl (v_as) ?_
            refine kt_d rfl rfl rfl (v_as) ?_
            refine kt_d rfl rfl rfl (v_as) ?_
            refine kt_nil ?_
            refine kn_then ?_
            exact ⟨(a20, a22, a24), hd_mk trivial⟩
      · intro y25 _
        obtain ⟨a20, a22, a24⟩ := y25
        refine kn_then ?_
        refine kwp_seq ?_
        refine kwp_seq ?_
        refine kwp_region ?_
        refine kd (v_fb fa_33_1) ?_
        refine kd (v_ldb Try.isAgg31) ?_
        refine kd (v_len Try.runUnderlying31) ?_
        refine kd (v_mv) ?_
        refine kops_nil ?_
        refine kn_then ?_
        refine kwp_cutE (inv := [(1, .pointer (some p1_2)), (2, .pointer (some p2_3)), (4, .int .i64 (w64 (s0.st - 1))), (5, .slice (some a20) j19 j19), (6, .slice (some a22) j21 j21), (7, .slice (some a24) j23 j23)]) (fun (z : List Int × List Int × List Int) (y : Unit) => []) (fun (z : List Int × List Int × List Int) (y : Unit) => [⟨.slice (some a20) j19 j19, 1, z.1.map encI⟩, ⟨.slice (some a22) j21 j21, 1, z.2.1.map encI⟩, ⟨.slice (some a24) j23 j23, 1, z.2.2.map encI⟩, ⟨.pointer (some p1_2), 2, [[.int .i64 s0.st, .slice s01a s0.legs.length s01c]]⟩, ⟨.pointer (some p2_3), 2, [[.int .i64 0, .slice none 0 0]]⟩, ⟨.slice none 0 0, 3, ([] : List Way).map encWay⟩]) (fun _ _ => True) h17 ?_ ?_
        · intro t31 h29
          refine kwp_block ?_
          refine kwp_loopE (inv := [(1, .pointer (some p1_2)), (2, .pointer (some p2_3)), (4, .int .i64 (w64 (s0.st - 1))), (5, .slice (some a20) j19 j19), (6, .slice (some a22) j21 j21), (7, .slice (some a24) j23 j23), (38, .slice s01a s0.legs.length s01c), (39, .int .i64 ((s0.legs.length : Nat) : Int))]) (fun (z : Int × List Int × List Int × List Int) (y : Unit) => [(40, .int .i64 z.1)]) (fun (z : Int × List Int × List Int × List Int) (y : Unit) => [⟨.slice (some a20) j19 j19, 1, z.2.1.map encI⟩, ⟨.slice (some a22) j21 j21, 1, z.2.2.1.map encI⟩, ⟨.slice (some a24) j23 j23, 1, z.2.2.2.map encI⟩, ⟨.pointer (some p1_2), 2, [[.int .i64 s0.st, .slice s01a s0.legs.length s01c]]⟩, ⟨.pointer (some p2_3), 2, [[.int .i64 0, .slice none 0 0]]⟩, ⟨.slice none 0 0, 3, ([] : List Way).map encWay⟩]) (fun _ _ => True) h29 ⟨(), hd_mk trivial⟩ ?_
          intro z38 y39 b36 _ h37
          obtain ⟨x32, l33, l34, l35⟩ := z38
          unfold p_impl_Adjust_L0 at h37
          refine kwp_seq ?_
          refine kwp_region ?_
          refine kd (v_cmp) ?_
          refine kops_nil ?_
          refine kn_then ?_
          refine kwp_seq ?_
          refine kwp_cond rfl (fun hc40 => ?_) (fun hc40 => ?_)
          ·
            replace h37 := e_t h37 hc40
            refine kwp_skip ?_
            refine kn_then ?_
            refine kwp_seq ?_
            refine kwp_block ?_
            refine kwp_seq ?_
            refine kwp_region ?_
            obtain ⟨j41, ej41, nj41, h37⟩ := e_idx h37
            refine kd (v_ia ej41 nj41 Try.runUnderlying31 Try.sizeOf58) ?_
            refine kd (v_lda (e := [_, _, _, _, _]) nj41 Try.isAgg58 Try.sizeOf58) ?_
            refine kk (n_alloc (e := [.int .i64 0, .int .i64 0, .int .i64 0, .int .i64 0, .int .i64 0]) 5 Try.zeroValue58 (fun p9_42 => ?_))
            refine kk (s_B (e' := [.int .i64 ((gx s0.legs j41).f), .int .i64 ((gx s0.legs j41).t), .int .i64 ((gx s0.legs j41).e), .int .i64 ((gx s0.legs j41).n), .int .i64 ((gx s0.legs j41).u)]) Try.sizeOf58 ?_)
            refine kops_nil ?_
            refine kn_then ?_
            refine kwp_seq ?_
            refine kwp_seq ?_
            refine kwp_region ?_
            refine kd (v_fb fa_58_1) ?_
            refine kd (v_ldb Try.isAgg3) ?_
            refine kd (v_cmp) ?_
            refine kops_nil ?_
            refine kn_then ?_
            refine kwp_cutE (inv := [(1, .pointer (some p1_2)), (2, .pointer (some p2_3)), (4, .int .i64 (w64 (s0.st - 1))), (5, .slice (some a20) j19 j19), (6, .slice (some a22) j21 j21), (7, .slice (some a24) j23 j23), (9, .pointer (some p9_42)), (38, .slice s01a s0.legs.length s01c), (39, .int .i64 ((s0.legs.length : Nat) : Int)), (40, .int .i64 x32)]) (fun (z : List Int × List Int × List Int) (y : Unit) => []) (fun (z : List Int × List Int × List Int) (y : Unit) => [⟨.slice (some a20) j19 j19, 1, z.1.map encI⟩, ⟨.slice (some a22) j21 j21, 1, z.2.1.map encI⟩, ⟨.slice (some a24) j23 j23, 1, z.2.2.map encI⟩, ⟨.pointer (some p1_2), 2, [[.int .i64 s0.st, .slice s01a s0.legs.length s01c]]⟩, ⟨.pointer (some p2_3), 2, [[.int .i64 0, .slice none 0 0]]⟩, ⟨.slice none 0 0, 3, ([] : List Way).map encWay⟩, ⟨.pointer (some p9_42), 5, [[.int .i64 ((gx s0.legs j41).f), .int .i64 ((gx s0.legs j41).t), .int .i64 ((gx s0.legs j41).e), .int .i64 ((gx s0.legs j41).n), .int .i64 ((gx s0.legs j41).u)]]⟩]) (fun _ _ => True) h37 ?_ ?_
            · intro t48 h46
              refine kwp_cond rfl (fun hc49 => ?_) (fun hc49 => ?_)
              ·
                replace h46 := e_t h46 hc49
                refine kwp_seq ?_
                obtain ⟨j50, ej50, nj50, h46⟩ := e_idx h46
                refine kwp_tree (.quiet 0 (.quiet 1 (.quiet 2 (.quiet 3 (.quiet 4 (.quiet 5 (.quiet 6 (.quiet 7 (.quiet 8 (.quiet 9 (.one 10 .stop))))))))))) [10] [⟨.slice (some a20) j19 j19, 1, l33.map encI⟩, ⟨.pointer (some p9_42), 5, [[.int .i64 ((gx s0.legs j41).f), .int .i64 ((gx s0.legs j41).t), .int .i64 ((gx s0.legs j41).e), .int .i64 ((gx s0.legs j41).n), .int .i64 ((gx s0.legs j41).u)]]⟩] drawMixed (by kernel_rfl) nopan (by (repeat (first | exact Sub.refl _ | exact Sub.nil _ | refine Sub.chunk (by repeat (first | exact Pick.here | apply Pick.there | apply Pick.seg)) (by rfl) ?_ | refine Sub.seg (by repeat (first | exact PickSeg.here | exact PickSeg.all | apply PickSeg.there | apply PickSeg.seg)) ?_ | exact Sub.seg0 (by repeat (first | exact PickSeg.here | exact PickSeg.all | apply PickSeg.there | apply PickSeg.seg)) | apply Sub.assoc))) ?_
                refine kt_d rfl rfl rfl (v_mv) ?_
                refine kt_d rfl rfl rfl (v_fb fa_58_1) ?_
                refine kt_d rfl rfl rfl (v_ldb Try.isAgg3) ?_
                refine kt_d rfl rfl rfl (v_sub) ?_
                refine kt_d rfl rfl rfl (v_ia ej50 nj50 Try.runUnderlying40 Try.sizeOf3) ?_
                refine kt_d rfl rfl rfl (v_ldf nj50 Try.isAgg3) ?_
                refine kt_d rfl rfl rfl (v_fb fa_58_2) ?_
                refine kt_d rfl rfl rfl (v_ldb Try.isAgg3) ?_
                refine kt_d rfl rfl rfl (v_add) ?_
                refine kt_d rfl rfl rfl (v_ia ej50 nj50 Try.runUnderlying40 Try.sizeOf3) ?_
                refine kt_one ?_
                refine kl_k rfl rfl (s_f (w64 ((gx l33 j50) + ((gx s0.legs j41).e))) nj50 Try.sizeOf3 ?_)
                refine ⟨.inr ⟨by decide, rfl⟩, ?_⟩
                refine kt_nil ?_
                refine kn_then ?_
                refine kwp_seq ?_
                obtain ⟨j51, ej51, nj51, h46⟩ := e_idx h46
                refine kwp_tree (.quiet 0 (.quiet 1 (.quiet 2 (.quiet 3 (.quiet 4 (.quiet 5 (.quiet 6 (.quiet 7 (.quiet 8 (.quiet 9 (.one 10 .stop))))))))))) [10] [⟨.slice (some a22) j21 j21, 1, l34.map encI⟩, ⟨.pointer (some p9_42), 5, [[.int .i64 ((gx s0.legs j41).f), .int .i64 ((gx s0.legs j41).t), .int .i64 ((gx s0.legs j41).e), .int .i64 ((gx s0.legs j41).n), .int .i64 ((gx s0.legs j41).u)]]⟩] drawMixed (by kernel_rfl) nopan (by (repeat (first | exact Sub.refl _ | exact Sub.nil _ | refine Sub.chunk (by repeat (first | exact Pick.here | apply Pick.there | apply Pick.seg)) (by rfl) ?_ | refine Sub.seg (by repeat (first | exact PickSeg.here | exact PickSeg.all | apply PickSeg.there | apply PickSeg.seg)) ?_ | exact Sub.seg0 (by repeat (first | exact PickSeg.here | exact PickSeg.all | apply PickSeg.there | apply PickSeg.seg)) | apply Sub.assoc))) ?_
                refine kt_d rfl rfl rfl (v_mv) ?_
                refine kt_d rfl rfl rfl (v_fb fa_58_1) ?_
                refine kt_d rfl rfl rfl (v_ldb Try.isAgg3) ?_
                refine kt_d rfl rfl rfl (v_sub) ?_
                refine kt_d rfl rfl rfl (v_ia ej51 nj51 Try.runUnderlying40 Try.sizeOf3) ?_
                refine kt_d rfl rfl rfl (v_ldf nj51 Try.isAgg3) ?_
                refine kt_d rfl rfl rfl (v_fb fa_58_3) ?_
                refine kt_d rfl rfl rfl (v_ldb Try.isAgg3) ?_
                refine kt_d rfl rfl rfl (v_add) ?_
                refine kt_d rfl rfl rfl (v_ia ej51 nj51 Try.runUnderlying40 Try.sizeOf3) ?_
                refine kt_one ?_
                refine kl_k rfl rfl (s_f (w64 ((gx l34 j51) + ((gx s0.legs j41).n))) nj51 Try.sizeOf3 ?_)
                refine ⟨.inr ⟨by decide, rfl⟩, ?_⟩
                refine kt_nil ?_
                refine kn_then ?_
                obtain ⟨j52, ej52, nj52, h46⟩ := e_idx h46
                refine kwp_tree (.quiet 0 (.quiet 1 (.quiet 2 (.quiet 3 (.quiet 4 (.quiet 5 (.quiet 6 (.quiet 7 (.quiet 8 (.quiet 9 (.one 10 .stop))))))))))) [10] [⟨.slice (some a24) j23 j23, 1, l35.map encI⟩, ⟨.pointer (some p9_42), 5, [[.int .i64 ((gx s0.legs j41).f), .int .i64 ((gx s0.legs j41).t), .int .i64 ((gx s0.legs j41).e), .int .i64 ((gx s0.legs j41).n), .int .i64 ((gx s0.legs j41).u)]]⟩] drawMixed (by kernel_rfl) nopan (by (repeat (first | exact Sub.refl _ | exact Sub.nil _ | refine Sub.chunk (by repeat (first | exact Pick.here | apply Pick.there | apply Pick.seg)) (by rfl) ?_ | refine Sub.seg (by repeat (first | exact PickSeg.here | exact PickSeg.all | apply PickSeg.there | apply PickSeg.seg)) ?_ | exact Sub.seg0 (by repeat (first | exact PickSeg.here | exact PickSeg.all | apply PickSeg.there | apply PickSeg.seg)) | apply Sub.assoc))) ?_
                refine kt_d rfl rfl rfl (v_mv) ?_
                refine kt_d rfl rfl rfl (v_fb fa_58_1) ?_
                refine kt_d rfl rfl rfl (v_ldb Try.isAgg3) ?_
                refine kt_d rfl rfl rfl (v_sub) ?_
                refine kt_d rfl rfl rfl (v_ia ej52 nj52 Try.runUnderlying40 Try.sizeOf3) ?_
                refine kt_d rfl rfl rfl (v_ldf nj52 Try.isAgg3) ?_
                refine kt_d rfl rfl rfl (v_fb fa_58_4) ?_
                refine kt_d rfl rfl rfl (v_ldb Try.isAgg3) ?_
                refine kt_d rfl rfl rfl (v_add) ?_
                refine kt_d rfl rfl rfl (v_ia ej52 nj52 Try.runUnderlying40 Try.sizeOf3) ?_
                refine kt_one ?_
                refine kl_k rfl rfl (s_f (w64 ((gx l35 j52) + ((gx s0.legs j41).u))) nj52 Try.sizeOf3 ?_)
                refine ⟨.inr ⟨by decide, rfl⟩, ?_⟩
                refine kt_nil ?_
                refine kn_then ?_
                obtain rfl := e_some h46
                exact ⟨(), hd_mk trivial⟩
              ·
                replace h46 := e_f h46 hc49
                refine kwp_skip ?_
                refine kn_then ?_
                obtain rfl := e_some h46
                exact ⟨(), hd_mk trivial⟩
            · intro z53 y54 _ h55
              obtain ⟨l43, l44, l45⟩ := z53
              refine kn_then ?_
              refine kwp_seq ?_
              refine kwp_region ?_
              refine kd (v_fb fa_58_0) ?_
              refine kd (v_ldb Try.isAgg3) ?_
              refine kd (v_cmp) ?_
              refine kops_nil ?_
              refine kn_then ?_
              refine kwp_cond rfl (fun hc56 => ?_) (fun hc56 => ?_)
              ·
                replace h55 := e_t h55 hc56
                refine kwp_seq ?_
                obtain ⟨j57, ej57, nj57, h55⟩ := e_idx h55
                refine kwp_tree (.quiet 0 (.quiet 1 (.quiet 2 (.quiet 3 (.quiet 4 (.quiet 5 (.quiet 6 (.quiet 7 (.quiet 8 (.quiet 9 (.one 10 .stop))))))))))) [10] [⟨.slice (some a20) j19 j19, 1, l43.map encI⟩, ⟨.pointer (some p9_42), 5, [[.int .i64 ((gx s0.legs j41).f), .int .i64 ((gx s0.legs j41).t), .int .i64 ((gx s0.legs j41).e), .int .i64 ((gx s0.legs j41).n), .int .i64 ((gx s0.legs j41).u)]]⟩] drawMixed (by kernel_rfl) nopan (by (repeat (first | exact Sub.refl _ | exact Sub.nil _ | refine Sub.chunk (by repeat (first | exact Pick.here | apply Pick.there | apply Pick.seg)) (by rfl) ?_ | refine Sub.seg (by repeat (first | exact PickSeg.here | exact PickSeg.all | apply PickSeg.there | apply PickSeg.seg)) ?_ | exact Sub.seg0 (by repeat (first | exact PickSeg.here | exact PickSeg.all | apply PickSeg.there | apply PickSeg.seg)) | apply Sub.assoc))) ?_
                refine kt_d rfl rfl rfl (v_mv) ?_
                refine kt_d rfl rfl rfl (v_fb fa_58_0) ?_
                refine kt_d rfl rfl rfl (v_ldb Try.isAgg3) ?_
                refine kt_d rfl rfl rfl (v_sub) ?_
                refine kt_d rfl rfl rfl (v_ia ej57 nj57 Try.runUnderlying40 Try.sizeOf3) ?_
                refine kt_d rfl rfl rfl (v_ldf nj57 Try.isAgg3) ?_
                refine kt_d rfl rfl rfl (v_fb fa_58_2) ?_
                refine kt_d rfl rfl rfl (v_ldb Try.isAgg3) ?_
                refine kt_d rfl rfl rfl (v_sub) ?_
                refine kt_d rfl rfl rfl (v_ia ej57 nj57 Try.runUnderlying40 Try.sizeOf3) ?_
                refine kt_one ?_
                refine kl_k rfl rfl (s_f (w64 ((gx l43 j57) - ((gx s0.legs j41).e))) nj57 Try.sizeOf3 ?_)
                refine ⟨.inr ⟨by decide, rfl⟩, ?_⟩
                refine kt_nil ?_
                refine kn_then ?_
                refine kwp_seq ?_
                obtain ⟨j58, ej58, nj58, h55⟩ := e_idx h55
                refine kwp_tree (.quiet 0 (.quiet 1 (.quiet 2 (.quiet 3 (.quiet 4 (.quiet 5 (.quiet 6 (.quiet 7 (.quiet 8 (.quiet 9 (.one 10 .stop))))))))))) [10] [⟨.slice (some a22) j21 j21, 1, l44.map encI⟩, ⟨.pointer (some p9_42), 5, [[.int .i64 ((gx s0.legs j41).f), .int .i64 ((gx s0.legs j41).t), .int .i64 ((gx s0.legs j41).e), .int .i64 ((gx s0.legs j41).n), .int .i64 ((gx s0.legs j41).u)]]⟩] drawMixed (by kernel_rfl) nopan (by (repeat (first | exact Sub.refl _ | exact Sub.nil _ | refine Sub.chunk (by repeat (first | exact Pick.here | apply Pick.there | apply Pick.seg)) (by rfl) ?_ | refine Sub.seg (by repeat (first | exact PickSeg.here | exact PickSeg.all | apply PickSeg.there | apply PickSeg.seg)) ?_ | exact Sub.seg0 (by repeat (first | exact PickSeg.here | exact PickSeg.all | apply PickSeg.there | apply PickSeg.seg)) | apply Sub.assoc))) ?_
                refine kt_d rfl rfl rfl (v_mv) ?_
                refine kt_d rfl rfl rfl (v_fb fa_58_0) ?_
                refine kt_d rfl rfl rfl (v_ldb Try.isAgg3) ?_
                refine kt_d rfl rfl rfl (v_sub) ?_
                refine kt_d rfl rfl rfl (v_ia ej58 nj58 Try.runUnderlying40 Try.sizeOf3) ?_
                refine kt_d rfl rfl rfl (v_ldf nj58 Try.isAgg3) ?_
                refine kt_d rfl rfl rfl (v_fb fa_58_3) ?_
                refine kt_d rfl rfl rfl (v_ldb Try.isAgg3) ?_
                refine kt_d rfl rfl rfl (v_sub) ?_
                refine kt_d rfl rfl rfl (v_ia ej58 nj58 Try.runUnderlying40 Try.sizeOf3) ?_
                refine kt_one ?_
                refine kl_k rfl rfl (s_f (w64 ((gx l44 j58) - ((gx s0.legs j41).n))) nj58 Try.sizeOf3 ?_)
                refine ⟨.inr ⟨by decide, rfl⟩, ?_⟩
                refine kt_nil ?_
                refine kn_then ?_
                obtain ⟨j59, ej59, nj59, h55⟩ := e_idx h55
                refine kwp_tree (.quiet 0 (.quiet 1 (.quiet 2 (.quiet 3 (.quiet 4 (.quiet 5 (.quiet 6 (.quiet 7 (.quiet 8 (.quiet 9 (.one 10 .stop))))))))))) [10] [⟨.slice (some a24) j23 j23, 1, l45.map encI⟩, ⟨.pointer (some p9_42), 5, [[.int .i64 ((gx s0.legs j41).f), .int .i64 ((gx s0.legs j41).t), .int .i64 ((gx s0.legs j41).e), .int .i64 ((gx s0.legs j41).n), .int .i64 ((gx s0.legs j41).u)]]⟩] drawMixed (by kernel_rfl) nopan (by (repeat (first | exact Sub.refl _ | exact Sub.nil _ | refine Sub.chunk (by repeat (first | exact Pick.here | apply Pick.there | apply Pick.seg)) (by rfl) ?_ | refine Sub.seg (by repeat (first | exact PickSeg.here | exact PickSeg.all | apply PickSeg.there | apply PickSeg.seg)) ?_ | exact Sub.seg0 (by repeat (first | exact PickSeg.here | exact PickSeg.all | apply PickSeg.there | apply PickSeg.seg)) | apply Sub.assoc))) ?_
                refine kt_d rfl rfl rfl (v_mv) ?_
                refine kt_d rfl rfl rfl (v_fb fa_58_0) ?_
                refine kt_d rfl rfl rfl (v_ldb Try.isAgg3) ?_
                refine kt_d rfl rfl rfl (v_sub) ?_
                refine kt_d rfl rfl rfl (v_ia ej59 nj59 Try.runUnderlying40 Try.sizeOf3) ?_
                refine kt_d rfl rfl rfl (v_ldf nj59 Try.isAgg3) ?_
                refine kt_d rfl rfl rfl (v_fb fa_58_4) ?_
                refine kt_d rfl rfl rfl (v_ldb Try.isAgg3) ?_
                refine kt_d rfl rfl rfl (v_sub) ?_
                refine kt_d rfl rfl rfl (v_ia ej59 nj59 Try.runUnderlying40 Try.sizeOf3) ?_
                refine kt_one ?_
                refine kl_k rfl rfl (s_f (w64 ((gx l45 j59) - ((gx s0.legs j41).u))) nj59 Try.sizeOf3 ?_)
                refine ⟨.inr ⟨by decide, rfl⟩, ?_⟩
                refine kt_nil ?_
                refine kn_block ?_
                refine kn_then ?_
                refine kwp_region ?_
                refine kd (v_add) ?_
                refine kd (v_mv) ?_
                refine kops_nil ?_
                refine kn_then ?_
                obtain rfl := e_some h55
                exact ⟨_, (), rfl, hd_mk trivial⟩
              ·
                replace h55 := e_f h55 hc56
                refine kwp_skip ?_
                refine kn_block ?_
                refine kn_then ?_
                refine kwp_region ?_
                refine kd (v_add) ?_
                refine kd (v_mv) ?_
                refine kops_nil ?_
                refine kn_then ?_
                obtain rfl := e_some h55
                exact ⟨_, (), rfl, hd_mk trivial⟩
          ·
            replace h37 := e_f h37 hc40
            refine kwp_exit ?_
            refine ke_then ?_
            obtain rfl := e_some h37
            refine k_out ?_ rfl
            rintro rfl
            refine ke_block ?_
            exact ⟨(), hd_mk trivial⟩
        · intro z60 y61 _ h62
          obtain ⟨l26, l27, l28⟩ := z60
          refine kn_then ?_
          refine kwp_seq ?_
          refine kwp_region ?_
          refine kd (v_ldB Try.isAgg33 Try.sizeOf33) ?_
          obtain ⟨v64, hv63, h62⟩ := e_bind h62
          refine kk (n_call Try.call31 (w_impl_Links s01a s0.legs.length s01c hv63) ?_)
          rintro _ _ ⟨q65a, q65c, q65R, rfl, hq65R, rfl⟩
          refine kd (v_as) ?_
          refine kops_nil ?_
          refine kn_then ?_
          refine kwp_seq ?_
          refine kwp_region ?_
          refine kd (v_mv) ?_
          refine kd (v_mv) ?_
          obtain ⟨⟨v67, v68⟩, hv66, h62⟩ := e_bind h62
          refine kk (n_call Try.call32 (w_impl_Solve q65a v64.length q65c q65R (some a20) j19 j19 hq65R hv66) ?_)
          rintro _ _ ⟨q69a, q69c, rfl, rfl⟩
          refine kd (v_mv) ?_
          refine kd (v_ex) ?_
          refine kd (v_ex) ?_
          refine kd (v_as) ?_
          refine kd (v_as) ?_
          refine kops_nil ?_
          refine kn_then ?_
          refine kwp_seq ?_
          refine kwp_region ?_
          refine kd (v_mv) ?_
          refine kd (v_mv) ?_
          obtain ⟨⟨v72, v73⟩, hv71, h62⟩ := e_bind h62
          refine kk (n_call Try.call32 (w_impl_Solve q65a v64.length q65c q65R (some a22) j21 j21 hq65R hv71) ?_)
          rintro _ _ ⟨q74a, q74c, rfl, rfl⟩
          refine kd (v_mv) ?_
          refine kd (v_ex) ?_
          refine kd (v_ex) ?_
          refine kd (v_as) ?_
          refine kd (v_as) ?_
          refine kops_nil ?_
          refine kn_then ?_
          refine kwp_seq ?_
          refine kwp_region ?_
          refine kd (v_mv) ?_
          refine kd (v_mv) ?_
          obtain ⟨⟨v77, v78⟩, hv76, h62⟩ := e_bind h62
          refine kk (n_call Try.call32 (w_impl_Solve q65a v64.length q65c q65R (some a24) j23 j23 hq65R hv76) ?_)
          rintro _ _ ⟨q79a, q79c, rfl, rfl⟩
          refine kd (v_mv) ?_
          refine kd (v_ex) ?_
          refine kd (v_ex) ?_
          refine kd (v_as) ?_
          refine kd (v_as) ?_
          refine kops_nil ?_
          refine kn_then ?_
          refine kwp_seq ?_
          refine kwp_region ?_
          refine kd (v_fb fa_33_0) ?_
          refine kd (v_ldb Try.isAgg3) ?_
          obtain ⟨j81, ej81, nj81, h62⟩ := e_sized h62
          refine kk (n_make (enc := encWay) (⟨0, 0, 0⟩ : Way) ej81 nj81 Try.underlying26 Try.type55 (by decide) (fun a82 => ?_))
          refine kd (v_as) ?_
          refine kops_nil ?_
          refine kn_then ?_
          refine kwp_seq ?_
          refine kwp_seq ?_
          refine kwp_region ?_
          refine kd (v_mv) ?_
          refine kd (v_mv) ?_
          refine kops_nil ?_
          refine kn_then ?_
          refine kwp_cutE (inv := [(2, .pointer (some p2_3)), (12, .int .i64 v68), (17, .slice (some a82) j81 j81)]) (fun (z : List Way) (y : Unit) => []) (fun (z : List Way) (y : Unit) => [⟨.slice (some a82) j81 j81, 3, z.map encWay⟩, ⟨.pointer (some p2_3), 2, [[.int .i64 0, .slice none 0 0]]⟩, ⟨.slice none 0 0, 3, ([] : List Way).map encWay⟩]) (fun _ _ => True) h62 ?_ ?_
          · intro t86 h84
            refine kwp_block ?_
            refine kwp_loopE (inv := [(2, .pointer (some p2_3)), (11, .slice q69a v67.length q69c), (12, .int .i64 v68), (13, .slice q74a v72.length q74c), (15, .slice q79a v77.length q79c), (17, .slice (some a82) j81 j81), (134, .int .i64 (w64 (s0.st - 1)))]) (fun (z : Int × List Way) (y : Unit) => [(135, .int .i64 z.1)]) (fun (z : Int × List Way) (y : Unit) => [⟨.slice (some a82) j81 j81, 3, z.2.map encWay⟩, ⟨.pointer (some p2_3), 2, [[.int .i64 0, .slice none 0 0]]⟩, ⟨.slice none 0 0, 3, ([] : List Way).map encWay⟩, ⟨.slice q69a v67.length q69c, 1, v67.map encI⟩, ⟨.slice q74a v72.length q74c, 1, v72.map encI⟩, ⟨.slice q79a v77.length q79c, 1, v77.map encI⟩]) (fun _ _ => True) h84 ⟨(), hd_mk trivial⟩ ?_
            intro z91 y92 b89 _ h90
            obtain ⟨x87, l88⟩ := z91
            unfold p_impl_Adjust_L1 at h90
            refine kwp_seq ?_
            refine kwp_region ?_
            refine kd (v_cmp) ?_
            refine kops_nil ?_
            refine kn_then ?_
            refine kwp_seq ?_
            refine kwp_cond rfl (fun hc93 => ?_) (fun hc93 => ?_)
            ·
              replace h90 := e_t h90 hc93
              refine kwp_skip ?_
              refine kn_then ?_
              refine kwp_seq ?_
              refine kwp_block ?_
              refine kwp_seq ?_
              refine kwp_region ?_
              refine kd (v_mv) ?_
              refine kd (v_as) ?_
              refine kops_nil ?_
              refine kn_then ?_
              obtain ⟨j94, ej94, nj94, h90⟩ := e_idx h90
              obtain ⟨j95, ej95, nj95, h90⟩ := e_idx h90
              obtain ⟨j96, ej96, nj96, h90⟩ := e_idx h90
              obtain ⟨j97, ej97, nj97, h90⟩ := e_idx h90
              refine kwp_tree (.quiet 0 (.quiet 1 (.quiet 2 (.quiet 3 (.quiet 4 (.quiet 5 (.quiet 6 (.quiet 7 (.quiet 8 (.quiet 9 (.quiet 10 (.quiet 11 (.quiet 12 (.quiet 13 (.quiet 14 (.quiet 15 (.quiet 16 (.one 17 .stop)))))))))))))))))) [17] [⟨.slice q69a v67.length q69c, 1, v67.map encI⟩, ⟨.slice q74a v72.length q74c, 1, v72.map encI⟩, ⟨.slice q79a v77.length q79c, 1, v77.map encI⟩, ⟨.slice (some a82) j81 j81, 3, l88.map encWay⟩] drawMixed (by kernel_rfl) nopan (by (repeat (first | exact Sub.refl _ | exact Sub.nil _ | refine Sub.chunk (by repeat (first | exact Pick.here | apply Pick.there | apply Pick.seg)) (by rfl) ?_ | refine Sub.seg (by repeat (first | exact PickSeg.here | exact PickSeg.all | apply PickSeg.there | apply PickSeg.seg)) ?_ | exact Sub.seg0 (by repeat (first | exact PickSeg.here | exact PickSeg.all | apply PickSeg.there | apply PickSeg.seg)) | apply Sub.assoc))) ?_
              refine kt_d rfl rfl rfl (v_mv) ?_
              refine kt_d rfl rfl rfl (v_mv) ?_
              refine kt_d rfl rfl rfl (v_add) ?_
              refine kt_d rfl rfl rfl (v_mv) ?_
              refine kt_d rfl rfl rfl (v_mv) ?_
              refine kt_d rfl rfl rfl (v_ia ej94 nj94 Try.runUnderlying40 Try.sizeOf3) ?_
              refine kt_d rfl rfl rfl (v_ldf nj94 Try.isAgg3) ?_
              refine kt_d rfl rfl rfl (v_mv) ?_
              refine kt_d rfl rfl rfl (v_mv) ?_
              refine kt_d rfl rfl rfl (v_ia ej95 nj95 Try.runUnderlying40 Try.sizeOf3) ?_
              refine kt_d rfl rfl rfl (v_ldf nj95 Try.isAgg3) ?_
              refine kt_d rfl rfl rfl (v_mv) ?_
              refine kt_d rfl rfl rfl (v_mv) ?_
              refine kt_d rfl rfl rfl (v_ia ej96 nj96 Try.runUnderlying40 Try.sizeOf3) ?_
              refine kt_d rfl rfl rfl (v_ldf nj96 Try.isAgg3) ?_
              refine kt_d rfl rfl rfl (v_bd [(0, _), (1, _), (2, _)] [_, _, _] Try.zeroValue55 Try.runUnderlying55 pl_55) ?_
              refine kt_d rfl rfl rfl (v_ia ej97 nj97 Try.runUnderlying26 Try.sizeOf55) ?_
              refine kt_one ?_
              refine kl_k rfl rfl (s_a (⟨gx v67 j94, gx v72 j95, gx v77 j96⟩ : Way) nj97 Try.sizeOf55 ?_ (ok_encWay _))
              refine ⟨.inr ⟨by decide, rfl⟩, ?_⟩
              refine kt_nil ?_
              refine kn_block ?_
              refine kn_then ?_
              refine kwp_region ?_
              refine kd (v_add) ?_
              refine kd (v_mv) ?_
              refine kops_nil ?_
              refine kn_then ?_
              obtain rfl := e_some h90
              exact ⟨_, (), rfl, hd_mk trivial⟩
            ·
              replace h90 := e_f h90 hc93
              refine kwp_exit ?_
              refine ke_then ?_
              obtain rfl := e_some h90
              refine k_out ?_ rfl
              rintro rfl
              refine ke_block ?_
              exact ⟨(), hd_mk trivial⟩
          · intro l83 y99 _ h100
            refine kn_then ?_
            refine kwp_seq ?_
            refine kwp_region ?_
            refine kd (v_mv) ?_
            refine kd (v_mv) ?_
            refine kd (v_bd [(0, _), (1, _)] [_, _] Try.zeroValue28 Try.runUnderlying28 pl_28) ?_
            refine kk (s_B (e' := [.int .i64 v68, .slice (some a82) j81 j81]) Try.sizeOf28 ?_)
            refine kd (v_as) ?_
            refine kops_nil ?_
            refine kn_then ?_
            refine k_len (c := j81) (fun hl101 => ?_)
            subst hl101
            refine kwp_ret ?_
            obtain rfl := e_some h100
            refine rc1 Try.isAgg28 Try.sizeOf28 [⟨.slice (some a82) (l83.length) (l83.length), 3, l83.map encWay⟩] ?_
            exact ⟨some a82, (l83.length), rfl, rfl⟩

end Go.Proofs.Ytkhjbfngafebeaa
