/- What the plain programs return, the functions of the program return; no condition. -/
import Derived.Test.YtpfijnklnljccaaDoorZQ
import Derived.Test.YtpfijnklnljccaaDoorZFa
import Derived.Test.YtpfijnklnljccaaDoorZVbr
namespace Go.Proofs.YtpfijnklnljccaaDoor
open Go
set_option linter.unusedVariables false
set_option linter.unusedSimpArgs false

set_option maxRecDepth 20000 in
set_option maxHeartbeats 2000000 in
theorem w_spec_l20Mine (r0p : Addr) (r00a : Option Addr) (r00n : Nat) (r00c : Nat) {r0 : Rd} {n0 : Int} {r : Mine × Int} (h : p_spec_l20Mine r0 n0 = some r) :
    Triple Tryd.prog 62 [.pointer (some r0p), .int .i64 n0] [⟨.slice r00a r00n r00c, 1, r0.b.map encB⟩] [⟨.pointer (some r0p), 2, [[.slice r00a r00n r00c, .int .i64 r0.p]]⟩] (fun v ch => ∃ (w01a : Option Addr) (w01c : Nat), v = .agg #[.int .i64 r.1.p, .slice w01a r.1.aw.length w01c] ∧ ch = [⟨.slice w01a r.1.aw.length w01c, 3, r.1.aw.map encAirway⟩, ⟨.pointer (some r0p), 2, [[.slice r00a r00n r00c, .int .i64 r.2]]⟩]) := by
  refine triple_start 115 Tryd.func62 Tryd.ntmps62 rfl rfl (fun w0 => ?_)
  refine k_len (c := r00c) (fun hl1 => ?_)
  subst hl1
  unfold p_spec_l20Mine at h
  refine kwp_seq ?_
  refine kwp_region ?_
  refine kops_nilchunk 3 (by decide) ?_
  refine kk (n_alloc (e := [.int .i64 0, .slice none 0 0]) 2 Tryd.zeroValue32 (fun p4_2 => ?_))
  refine kops_nil ?_
  refine kn_then ?_
  refine kwp_seq ?_
  refine kwp_region ?_
  refine kd (v_mv) ?_
  obtain ⟨⟨v4, v5⟩, hv3, h⟩ := e_bind h
  refine kk (n_call Tryd.call58 (w_spec_l20Rd_pick r0p r00a r0.b.length r00c hv3) ?_)
  rintro _ _ ⟨rfl, rfl⟩
  refine kd (v_add) ?_
  refine kops_nilchunk 3 (by decide) ?_
  refine kd (v_bd [(0, _)] [_, .slice none 0 0] Tryd.zeroValue32 Tryd.runUnderlying32 pl_32) ?_
  refine kops_nilchunk 3 (by decide) ?_
  refine kk (n_alloc (e := [.int .i64 0, .slice none 0 0]) 2 Tryd.zeroValue32 (fun p5_7 => ?_))
  refine kk (s_B (e' := [.int .i64 (w64 (2 + v4)), .slice none 0 0]) Tryd.sizeOf32 ?_)
  refine kops_nil ?_
  refine kn_then ?_
  refine kwp_seq ?_
  refine kwp_region ?_
  refine kd (v_mv) ?_
  obtain ⟨⟨v9, v10⟩, hv8, h⟩ := e_bind h
  refine kk (n_call Tryd.call58 (w_spec_l20Rd_pick r0p r00a r0.b.length r00c hv8) ?_)
  rintro _ _ ⟨rfl, rfl⟩
  refine kd (v_cmp) ?_
  refine kd (v_as) ?_
  refine kops_nil ?_
  refine kn_then ?_
  refine kwp_seq ?_
  refine kwp_seq ?_
  refine kwp_region ?_
  refine kd (v_as) ?_
  refine kops_nil ?_
  refine kn_then ?_
  refine kwp_cutE (inv := [(0, .pointer (some r0p)), (1, .int .i64 n0), (4, .pointer (some p4_2)), (5, .pointer (some p5_7))]) (fun (z : Int × List Airway) (y : Option Addr × Nat × Nat) => []) (fun (z : Int × List Airway) (y : Option Addr × Nat × Nat) => [⟨.pointer (some r0p), 2, [[.slice r00a r0.b.length r00c, .int .i64 z.1]]⟩, ⟨.pointer (some p5_7), 2, [[.int .i64 (w64 (2 + v4)), .slice y.1 y.2.1 y.2.2]]⟩, ⟨.slice y.1 y.2.1 y.2.2, 3, z.2.map encAirway⟩, ⟨.pointer (some p4_2), 2, [[.int .i64 0, .slice none 0 0]]⟩, ⟨.slice none 0 0, 3, ([] : List Airway).map encAirway⟩]) (fun _ _ => True) h ?_ ?_
  · intro t16 h14
    refine kwp_block ?_
    refine kwp_loopE (inv := [(0, .pointer (some r0p)), (1, .int .i64 n0), (4, .pointer (some p4_2)), (5, .pointer (some p5_7)), (6, .bool (v9 == 0))]) (fun (z : Int × Int × List Airway) (y : Option Addr × Nat × Nat) => [(7, .int .i64 z.1)]) (fun (z : Int × Int × List Airway) (y : Option Addr × Nat × Nat) => [⟨.pointer (some r0p), 2, [[.slice r00a r0.b.length r00c, .int .i64 z.2.1]]⟩, ⟨.pointer (some p5_7), 2, [[.int .i64 (w64 (2 + v4)), .slice y.1 y.2.1 y.2.2]]⟩, ⟨.slice y.1 y.2.1 y.2.2, 3, z.2.2.map encAirway⟩, ⟨.pointer (some p4_2), 2, [[.int .i64 0, .slice none 0 0]]⟩, ⟨.slice none 0 0, 3, ([] : List Airway).map encAirway⟩]) (fun _ _ => True) h14 ⟨(none, 0, 0), hd_mk trivial⟩ ?_
    intro z22 y23 b20 _ h21
    obtain ⟨k17, p18, aw19⟩ := z22
    obtain ⟨aw19a, aw19n, aw19c⟩ := y23
    refine k_len (c := aw19c) (fun hl24 => ?_)
    subst hl24
    unfold p_spec_l20Mine_L0 at h21
    refine kwp_seq ?_
    refine kwp_seq ?_
    refine kwp_region ?_
    refine kd (v_mv) ?_
    refine kd (v_fb fa_32_0) ?_
    refine kd (v_ldb Tryd.isAgg3) ?_
    refine kd (v_cmp) ?_
    refine kops_nil ?_
    refine kn_then ?_
    refine kwp_cond rfl (fun hc25 => ?_) (fun hc25 => ?_)
    ·
      replace h21 := e_t h21 hc25
      refine kwp_skip ?_
      refine kn_then ?_
      refine kwp_seq ?_
      refine kwp_block ?_
      refine kwp_seq ?_
      refine kwp_cutE (inv := [(0, .pointer (some r0p)), (1, .int .i64 n0), (4, .pointer (some p4_2)), (5, .pointer (some p5_7)), (6, .bool (v9 == 0)), (7, .int .i64 k17)]) (fun (z : Bool × Int) (y : Unit) => [(29, .bool z.1)]) (fun (z : Bool × Int) (y : Unit) => [⟨.pointer (some r0p), 2, [[.slice r00a r0.b.length r00c, .int .i64 z.2]]⟩, ⟨.pointer (some p4_2), 2, [[.int .i64 0, .slice none 0 0]]⟩, ⟨.slice none 0 0, 3, ([] : List Airway).map encAirway⟩, ⟨.pointer (some p5_7), 2, [[.int .i64 (w64 (2 + v4)), .slice aw19a aw19.length aw19c]]⟩, ⟨.slice aw19a (aw19.length) aw19c, 3, aw19.map encAirway⟩]) (fun _ _ => True) h21 ?_ ?_
      · intro t30 h28
        refine kwp_region ?_
        refine kd (v_mv) ?_
        refine kd (v_not) ?_
        refine kd (v_mv) ?_
        refine kops_split 25 rfl (fun hb31 => ?_) (fun hb31 => ?_)
        ·
          replace h28 := e_t h28 hb31
          refine kskip hb31 ?_
          refine kskip hb31 ?_
          refine kskip hb31 ?_
          refine kd (v_pt hb31) ?_
          refine kops_nil ?_
          refine kn_then ?_
          obtain rfl := e_some h28
          exact ⟨(), hd_mk trivial⟩
        ·
          replace h28 := e_f h28 hb31
          refine kgd hb31 (v_mv) ?_
          obtain ⟨⟨v33, v34⟩, hv32, h28⟩ := e_bind h28
          refine kgk hb31 (n_call Tryd.call58 (w_spec_l20Rd_pick r0p r00a r0.b.length r00c hv32) ?_)
          rintro _ _ ⟨rfl, rfl⟩
          refine kgd hb31 (v_cmp) ?_
          refine kd (v_pf hb31) ?_
          refine kops_nil ?_
          refine kn_then ?_
          obtain rfl := e_some h28
          exact ⟨(), hd_mk trivial⟩
      · intro z36 y37 _ h38
        obtain ⟨x26, p27⟩ := z36
        refine kn_then ?_
        refine kwp_cond rfl (fun hc39 => ?_) (fun hc39 => ?_)
        ·
          replace h38 := e_t h38 hc39
          obtain ⟨⟨v41, v42⟩, hv40, h38⟩ := e_bind h38
          obtain ⟨⟨v45, v46⟩, hv44, h38⟩ := e_bind h38
          obtain ⟨hz49, h38⟩ := e_need h38
          refine kwp_tree (.quiet 0 (.quiet 1 (.quiet 2 (.quiet 3 (.quiet 5 (.quiet 6 (.one 4 (.one 7 (.quiet 8 (.quiet 9 (.one 10 (.one 11 (.quiet 12 (.one 13 .stop)))))))))))))) [13] [⟨.pointer (some p5_7), 2, [[.int .i64 (w64 (2 + v4)), .slice aw19a aw19.length aw19c]]⟩] drawMixed (by kernel_rfl) nopan (by (repeat (first | exact Sub.refl _ | exact Sub.nil _ | refine Sub.chunk (by repeat (first | exact Pick.here | apply Pick.there | apply Pick.seg)) (by rfl) ?_ | refine Sub.seg (by repeat (first | exact PickSeg.here | exact PickSeg.all | apply PickSeg.there | apply PickSeg.seg)) ?_ | exact Sub.seg0 (by repeat (first | exact PickSeg.here | exact PickSeg.all | apply PickSeg.there | apply PickSeg.seg)) | apply Sub.assoc))) ?_
          refine kt_d rfl rfl rfl (v_fb fa_32_1) ?_
          refine kt_d rfl rfl rfl (v_ldb Tryd.isAgg30) ?_
          refine kt_d rfl rfl rfl (v_mv) ?_
          refine kt_d rfl rfl rfl (v_mv) ?_
          refine kt_d rfl rfl rfl (v_mv) ?_
          refine kt_d rfl rfl rfl (v_mv) ?_
          refine kt_one ?_
          refine kl_k rfl rfl (n_call Tryd.call58 (w_spec_l20Rd_pick r0p r00a r0.b.length r00c hv40) ?_)
          rintro _ _ ⟨rfl, rfl⟩
          refine ⟨.inl (by (repeat (first | exact Sub.refl _ | exact Sub.nil _ | refine Sub.chunk (by repeat (first | exact Pick.here | apply Pick.there | apply Pick.seg)) (by rfl) ?_ | refine Sub.seg (by repeat (first | exact PickSeg.here | exact PickSeg.all | apply PickSeg.there | apply PickSeg.seg)) ?_ | exact Sub.seg0 (by repeat (first | exact PickSeg.here | exact PickSeg.all | apply PickSeg.there | apply PickSeg.seg)) | apply Sub.assoc))), ?_⟩
          refine kt_one ?_
          refine kl_k rfl rfl (n_call Tryd.call58 (w_spec_l20Rd_pick r0p r00a r0.b.length r00c hv44) ?_)
          rintro _ _ ⟨rfl, rfl⟩
          refine ⟨.inl (by (repeat (first | exact Sub.refl _ | exact Sub.nil _ | refine Sub.chunk (by repeat (first | exact Pick.here | apply Pick.there | apply Pick.seg)) (by rfl) ?_ | refine Sub.seg (by repeat (first | exact PickSeg.here | exact PickSeg.all | apply PickSeg.there | apply PickSeg.seg)) ?_ | exact Sub.seg0 (by repeat (first | exact PickSeg.here | exact PickSeg.all | apply PickSeg.there | apply PickSeg.seg)) | apply Sub.assoc))), ?_⟩
          refine kt_d rfl rfl rfl (v_add) ?_
          refine kt_d rfl rfl rfl (v_bd [(0, _), (1, _), (2, _)] [_, _, _] Tryd.zeroValue36 Tryd.runUnderlying36 pl_36) ?_
          refine kt_one ?_
          refine kl_k rfl rfl (n_lit (enc := encAirway) [_] ([(⟨v41, k17, w64 (1 + v45)⟩ : Airway)] : List Airway) Tryd.runUnderlying30 Tryd.sizeOf36 Tryd.zeroValue36 (fun a48 => ?_))
          refine ⟨.inl (by (repeat (first | exact Sub.refl _ | exact Sub.nil _ | refine Sub.chunk (by repeat (first | exact Pick.here | apply Pick.there | apply Pick.seg)) (by rfl) ?_ | refine Sub.seg (by repeat (first | exact PickSeg.here | exact PickSeg.all | apply PickSeg.there | apply PickSeg.seg)) ?_ | exact Sub.seg0 (by repeat (first | exact PickSeg.here | exact PickSeg.all | apply PickSeg.there | apply PickSeg.seg)) | apply Sub.assoc))), ?_⟩
          refine kt_one ?_
          refine kl_k rfl rfl (n_app (enc := encAirway) ok_encAirway hz49 Tryd.underlying30 Tryd.type36 (by decide) (fun a50 c51 => ?_))
          refine ⟨.inl (by (repeat (first | exact Sub.refl _ | exact Sub.nil _ | refine Sub.chunk (by repeat (first | exact Pick.here | apply Pick.there | apply Pick.seg)) (by rfl) ?_ | refine Sub.seg (by repeat (first | exact PickSeg.here | exact PickSeg.all | apply PickSeg.there | apply PickSeg.seg)) ?_ | exact Sub.seg0 (by repeat (first | exact PickSeg.here | exact PickSeg.all | apply PickSeg.there | apply PickSeg.seg)) | apply Sub.assoc))), ?_⟩
          refine kt_d rfl rfl rfl (v_fb fa_32_1) ?_
          refine kt_one ?_
          refine kl_k rfl rfl (s_b (e' := [.int .i64 (w64 (2 + v4)), .slice a50 ((aw19 ++ ([(⟨v41, k17, w64 (1 + v45)⟩ : Airway)] : List Airway)).length) c51]) Tryd.sizeOf30 ?_)
          refine ⟨.inr ⟨by decide, rfl⟩, ?_⟩
          refine kt_nil ?_
          refine kn_block ?_
          refine kn_then ?_
          refine kwp_region ?_
          refine kd (v_mv) ?_
          refine kd (v_add) ?_
          refine kd (v_as) ?_
          refine kops_nil ?_
          refine kn_then ?_
          obtain rfl := e_some h38
          exact ⟨_, (a50, (aw19 ++ ([(⟨v41, k17, w64 (1 + v45)⟩ : Airway)] : List Airway)).length, c51), rfl, hd_mk trivial⟩
        ·
          replace h38 := e_f h38 hc39
          refine kwp_skip ?_
          refine kn_block ?_
          refine kn_then ?_
          refine kwp_region ?_
          refine kd (v_mv) ?_
          refine kd (v_add) ?_
          refine kd (v_as) ?_
          refine kops_nil ?_
          refine kn_then ?_
          obtain rfl := e_some h38
          exact ⟨_, (aw19a, aw19.length, aw19c), rfl, hd_mk trivial⟩
    ·
      replace h21 := e_f h21 hc25
      refine kwp_exit ?_
      refine ke_then ?_
      obtain rfl := e_some h21
      refine k_out ?_ rfl
      rintro rfl
      refine ke_block ?_
      exact ⟨(aw19a, aw19.length, aw19c), hd_mk trivial⟩
  · intro z52 y53 _ h54
    obtain ⟨p12, aw13⟩ := z52
    obtain ⟨aw13a, aw13n, aw13c⟩ := y53
    refine k_len (c := aw13c) (fun hl55 => ?_)
    subst hl55
    refine kwp_seq ?_
    refine kwp_seq ?_
    refine kwp_region ?_
    refine kd (v_mv) ?_
    obtain ⟨⟨v57, v58⟩, hv56, h54⟩ := e_bind h54
    refine kk (n_call Tryd.call58 (w_spec_l20Rd_pick r0p r00a r0.b.length r00c hv56) ?_)
    rintro _ _ ⟨rfl, rfl⟩
    refine kd (v_as) ?_
    refine kops_nil ?_
    refine kn_then ?_
    refine kwp_cutE (inv := [(0, .pointer (some r0p)), (1, .int .i64 n0), (4, .pointer (some p4_2)), (5, .pointer (some p5_7))]) (fun (z : Int × List Airway) (y : Option Addr × Nat × Nat) => []) (fun (z : Int × List Airway) (y : Option Addr × Nat × Nat) => [⟨.pointer (some r0p), 2, [[.slice r00a r0.b.length r00c, .int .i64 z.1]]⟩, ⟨.pointer (some p5_7), 2, [[.int .i64 (w64 (2 + v4)), .slice y.1 y.2.1 y.2.2]]⟩, ⟨.slice y.1 y.2.1 y.2.2, 3, z.2.map encAirway⟩, ⟨.pointer (some p4_2), 2, [[.int .i64 0, .slice none 0 0]]⟩, ⟨.slice none 0 0, 3, ([] : List Airway).map encAirway⟩]) (fun _ _ => True) h54 ?_ ?_
    · intro t64 h62
      refine kwp_block ?_
      refine kwp_loopE (inv := [(0, .pointer (some r0p)), (1, .int .i64 n0), (4, .pointer (some p4_2)), (5, .pointer (some p5_7))]) (fun (z : Int × Int × List Airway) (y : Option Addr × Nat × Nat) => [(8, .int .i64 z.1)]) (fun (z : Int × Int × List Airway) (y : Option Addr × Nat × Nat) => [⟨.pointer (some r0p), 2, [[.slice r00a r0.b.length r00c, .int .i64 z.2.1]]⟩, ⟨.pointer (some p5_7), 2, [[.int .i64 (w64 (2 + v4)), .slice y.1 y.2.1 y.2.2]]⟩, ⟨.slice y.1 y.2.1 y.2.2, 3, z.2.2.map encAirway⟩, ⟨.pointer (some p4_2), 2, [[.int .i64 0, .slice none 0 0]]⟩, ⟨.slice none 0 0, 3, ([] : List Airway).map encAirway⟩]) (fun _ _ => True) h62 ⟨(aw13a, aw13.length, aw13c), hd_mk trivial⟩ ?_
      intro z70 y71 b68 _ h69
      obtain ⟨k65, p66, aw67⟩ := z70
      obtain ⟨aw67a, aw67n, aw67c⟩ := y71
      refine k_len (c := aw67c) (fun hl72 => ?_)
      subst hl72
      unfold p_spec_l20Mine_L1 at h69
      refine kwp_seq ?_
      refine kwp_seq ?_
      refine kwp_cutE (inv := [(0, .pointer (some r0p)), (1, .int .i64 n0), (4, .pointer (some p4_2)), (5, .pointer (some p5_7)), (8, .int .i64 k65)]) (fun (z : Bool) (y : Unit) => [(52, .bool z)]) (fun (z : Bool) (y : Unit) => [⟨.pointer (some r0p), 2, [[.slice r00a r0.b.length r00c, .int .i64 p66]]⟩, ⟨.pointer (some p4_2), 2, [[.int .i64 0, .slice none 0 0]]⟩, ⟨.slice none 0 0, 3, ([] : List Airway).map encAirway⟩, ⟨.pointer (some p5_7), 2, [[.int .i64 (w64 (2 + v4)), .slice aw67a aw67.length aw67c]]⟩, ⟨.slice aw67a (aw67.length) aw67c, 3, aw67.map encAirway⟩]) (fun _ _ => True) h69 ?_ ?_
      · intro t76 h74
        refine kwp_region ?_
        refine kd (v_mv) ?_
        refine kd (v_cmp) ?_
        refine kd (v_mv) ?_
        refine kops_split 47 rfl (fun hb77 => ?_) (fun hb77 => ?_)
        ·
          replace h74 := e_t h74 hb77
          refine kgd hb77 (v_fb fa_32_1) ?_
          refine kgd hb77 (v_ldb Tryd.isAgg30) ?_
          refine kgd hb77 (v_len Tryd.runUnderlying30) ?_
          refine kgd hb77 (v_cmp) ?_
          refine kd (v_pt hb77) ?_
          refine kops_nil ?_
          refine kn_then ?_
          obtain rfl := e_some h74
          exact ⟨(), hd_mk trivial⟩
        ·
          replace h74 := e_f h74 hb77
          refine kskip hb77 ?_
          refine kskip hb77 ?_
          refine kskip hb77 ?_
          refine kskip hb77 ?_
          refine kd (v_pf hb77) ?_
          refine kops_nil ?_
          refine kn_then ?_
          obtain rfl := e_some h74
          exact ⟨(), hd_mk trivial⟩
      · intro x73 y79 _ h80
        refine kn_then ?_
        refine kwp_cond rfl (fun hc81 => ?_) (fun hc81 => ?_)
        ·
          replace h80 := e_t h80 hc81
          refine kwp_skip ?_
          refine kn_then ?_
          refine kwp_seq ?_
          refine kwp_block ?_
          refine kwp_seq ?_
          obtain ⟨⟨v83, v84⟩, hv82, h80⟩ := e_bind h80
          obtain ⟨⟨v87, v88⟩, hv86, h80⟩ := e_bind h80
          obtain ⟨⟨v91, v92⟩, hv90, h80⟩ := e_bind h80
          refine kwp_cutS (inv := [(0, .pointer (some r0p)), (1, .int .i64 n0), (4, .pointer (some p4_2)), (5, .pointer (some p5_7)), (8, .int .i64 k65)]) (fun (y : Addr) => [(9, .pointer (some y))]) (fun (y : Addr) => [⟨.pointer (some r0p), 2, [[.slice r00a r0.b.length r00c, .int .i64 v92]]⟩, ⟨.pointer (some p4_2), 2, [[.int .i64 0, .slice none 0 0]]⟩, ⟨.slice none 0 0, 3, ([] : List Airway).map encAirway⟩, ⟨.pointer (some p5_7), 2, [[.int .i64 (w64 (2 + v4)), .slice aw67a aw67.length aw67c]]⟩, ⟨.slice aw67a (aw67.length) aw67c, 3, aw67.map encAirway⟩, ⟨.pointer (some y), 3, [[.int .i64 v83, .int .i64 v87, .int .i64 (w64 (1 + v91))]]⟩]) (fun (y : Addr) => True) ?_ ?_
          ·
            refine kwp_tree (.quiet 0 (.quiet 1 (.quiet 2 (.quiet 4 (.quiet 5 (.quiet 6 (.quiet 8 (.two 3 (.two 7 (.two 9 (.quiet 10 (.quiet 11 (.one 12 (.one 13 .stop)))) 12 (.one 9 (.quiet 10 (.quiet 11 (.one 13 .stop))))) 12 (.one 7 (.one 9 (.quiet 10 (.quiet 11 (.one 13 .stop)))))) 12 (.one 3 (.one 7 (.one 9 (.quiet 10 (.quiet 11 (.one 13 .stop)))))))))))))) [] [⟨.pointer (some p5_7), 2, [[.int .i64 (w64 (2 + v4)), .slice aw67a aw67.length aw67c]]⟩] drawMixed (by kernel_rfl) nopan (by (repeat (first | exact Sub.refl _ | exact Sub.nil _ | refine Sub.chunk (by repeat (first | exact Pick.here | apply Pick.there | apply Pick.seg)) (by rfl) ?_ | refine Sub.seg (by repeat (first | exact PickSeg.here | exact PickSeg.all | apply PickSeg.there | apply PickSeg.seg)) ?_ | exact Sub.seg0 (by repeat (first | exact PickSeg.here | exact PickSeg.all | apply PickSeg.there | apply PickSeg.seg)) | apply Sub.assoc))) ?_
            refine kt_d rfl rfl rfl (v_mv) ?_
            refine kt_d rfl rfl rfl (v_fb fa_32_0) ?_
            refine kt_d rfl rfl rfl (v_ldb Tryd.isAgg3) ?_
            refine kt_d rfl rfl rfl (v_mv) ?_
            refine kt_d rfl rfl rfl (v_fb fa_32_0) ?_
            refine kt_d rfl rfl rfl (v_ldb Tryd.isAgg3) ?_
            refine kt_d rfl rfl rfl (v_mv) ?_
            refine kt_two ?_ ?_
            ·
              refine kl_k rfl rfl (n_call Tryd.call58 (w_spec_l20Rd_pick r0p r00a r0.b.length r00c hv82) ?_)
              rintro _ _ ⟨rfl, rfl⟩
              refine ⟨.inl (by (repeat (first | exact Sub.refl _ | exact Sub.nil _ | refine Sub.chunk (by repeat (first | exact Pick.here | apply Pick.there | apply Pick.seg)) (by rfl) ?_ | refine Sub.seg (by repeat (first | exact PickSeg.here | exact PickSeg.all | apply PickSeg.there | apply PickSeg.seg)) ?_ | exact Sub.seg0 (by repeat (first | exact PickSeg.here | exact PickSeg.all | apply PickSeg.there | apply PickSeg.seg)) | apply Sub.assoc))), ?_⟩
              refine kt_two ?_ ?_
              ·
                refine kl_k rfl rfl (n_call Tryd.call58 (w_spec_l20Rd_pick r0p r00a r0.b.length r00c hv86) ?_)
                rintro _ _ ⟨rfl, rfl⟩
                refine ⟨.inl (by (repeat (first | exact Sub.refl _ | exact Sub.nil _ | refine Sub.chunk (by repeat (first | exact Pick.here | apply Pick.there | apply Pick.seg)) (by rfl) ?_ | refine Sub.seg (by repeat (first | exact PickSeg.here | exact PickSeg.all | apply PickSeg.there | apply PickSeg.seg)) ?_ | exact Sub.seg0 (by repeat (first | exact PickSeg.here | exact PickSeg.all | apply PickSeg.there | apply PickSeg.seg)) | apply Sub.assoc))), ?_⟩
                refine kt_two ?_ ?_
                ·
                  refine kl_k rfl rfl (n_call Tryd.call58 (w_spec_l20Rd_pick r0p r00a r0.b.length r00c hv90) ?_)
                  rintro _ _ ⟨rfl, rfl⟩
                  refine ⟨.inl (by (repeat (first | exact Sub.refl _ | exact Sub.nil _ | refine Sub.chunk (by repeat (first | exact Pick.here | apply Pick.there | apply Pick.seg)) (by rfl) ?_ | refine Sub.seg (by repeat (first | exact PickSeg.here | exact PickSeg.all | apply PickSeg.there | apply PickSeg.seg)) ?_ | exact Sub.seg0 (by repeat (first | exact PickSeg.here | exact PickSeg.all | apply PickSeg.there | apply PickSeg.seg)) | apply Sub.assoc))), ?_⟩
                  refine kt_d rfl rfl rfl (v_add) ?_
                  refine kt_d rfl rfl rfl (v_bd [(0, _), (1, _), (2, _)] [_, _, _] Tryd.zeroValue36 Tryd.runUnderlying36 pl_36) ?_
                  refine kt_one ?_
                  refine kl_k rfl rfl (n_alloc (e := [.int .i64 0, .int .i64 0, .int .i64 0]) 3 Tryd.zeroValue36 (fun p9_94 => ?_))
                  refine ⟨.inl (by (repeat (first | exact Sub.refl _ | exact Sub.nil _ | refine Sub.chunk (by repeat (first | exact Pick.here | apply Pick.there | apply Pick.seg)) (by rfl) ?_ | refine Sub.seg (by repeat (first | exact PickSeg.here | exact PickSeg.all | apply PickSeg.there | apply PickSeg.seg)) ?_ | exact Sub.seg0 (by repeat (first | exact PickSeg.here | exact PickSeg.all | apply PickSeg.there | apply PickSeg.seg)) | apply Sub.assoc))), ?_⟩
                  refine kt_one ?_
                  refine kl_k rfl rfl (s_B (e' := [.int .i64 v83, .int .i64 v87, .int .i64 (w64 (1 + v91))]) Tryd.sizeOf36 ?_)
                  refine ⟨.inl (by (repeat (first | exact Sub.refl _ | exact Sub.nil _ | refine Sub.chunk (by repeat (first | exact Pick.here | apply Pick.there | apply Pick.seg)) (by rfl) ?_ | refine Sub.seg (by repeat (first | exact PickSeg.here | exact PickSeg.all | apply PickSeg.there | apply PickSeg.seg)) ?_ | exact Sub.seg0 (by repeat (first | exact PickSeg.here | exact PickSeg.all | apply PickSeg.there | apply PickSeg.seg)) | apply Sub.assoc))), ?_⟩
                  refine kt_nil ?_
                  refine kn_then ?_
                  exact ⟨p9_94, hd_mk trivial⟩
                ·
                  refine kl_k rfl rfl (n_alloc (e := [.int .i64 0, .int .i64 0, .int .i64 0]) 3 Tryd.zeroValue36 (fun p9_94 => ?_))
                  refine ⟨.inl (by (repeat (first | exact Sub.refl _ | exact Sub.nil _ | refine Sub.chunk (by repeat (first | exact Pick.here | apply Pick.there | apply Pick.seg)) (by rfl) ?_ | refine Sub.seg (by repeat (first | exact PickSeg.here | exact PickSeg.all | apply PickSeg.there | apply PickSeg.seg)) ?_ | exact Sub.seg0 (by repeat (first | exact PickSeg.here | exact PickSeg.all | apply PickSeg.there | apply PickSeg.seg)) | apply Sub.assoc))), ?_⟩
                  refine kt_one ?_
                  refine kl_k rfl rfl (n_call Tryd.call58 (w_spec_l20Rd_pick r0p r00a r0.b.length r00c hv90) ?_)
                  rintro _ _ ⟨rfl, rfl⟩
                  refine ⟨.inl (by (repeat (first | exact Sub.refl _ | exact Sub.nil _ | refine Sub.chunk (by repeat (first | exact Pick.here | apply Pick.there | apply Pick.seg)) (by rfl) ?_ | refine Sub.seg (by repeat (first | exact PickSeg.here | exact PickSeg.all | apply PickSeg.there | apply PickSeg.seg)) ?_ | exact Sub.seg0 (by repeat (first | exact PickSeg.here | exact PickSeg.all | apply PickSeg.there | apply PickSeg.seg)) | apply Sub.assoc))), ?_⟩
                  refine kt_d rfl rfl rfl (v_add) ?_
                  refine kt_d rfl rfl rfl (v_bd [(0, _), (1, _), (2, _)] [_, _, _] Tryd.zeroValue36 Tryd.runUnderlying36 pl_36) ?_
                  refine kt_one ?_
                  refine kl_k rfl rfl (s_B (e' := [.int .i64 v83, .int .i64 v87, .int .i64 (w64 (1 + v91))]) Tryd.sizeOf36 ?_)
                  refine ⟨.inl (by (repeat (first | exact Sub.refl _ | exact Sub.nil _ | refine Sub.chunk (by repeat (first | exact Pick.here | apply Pick.there | apply Pick.seg)) (by rfl) ?_ | refine Sub.seg (by repeat (first | exact PickSeg.here | exact PickSeg.all | apply PickSeg.there | apply PickSeg.seg)) ?_ | exact Sub.seg0 (by repeat (first | exact PickSeg.here | exact PickSeg.all | apply PickSeg.there | apply PickSeg.seg)) | apply Sub.assoc))), ?_⟩
                  refine kt_nil ?_
                  refine kn_then ?_
                  exact ⟨p9_94, hd_mk trivial⟩
              ·
                refine kl_k rfl rfl (n_alloc (e := [.int .i64 0, .int .i64 0, .int .i64 0]) 3 Tryd.zeroValue36 (fun p9_94 => ?_))
                refine ⟨.inl (by (repeat (first | exact Sub.refl _ | exact Sub.nil _ | refine Sub.chunk (by repeat (first | exact Pick.here | apply Pick.there | apply Pick.seg)) (by rfl) ?_ | refine Sub.seg (by repeat (first | exact PickSeg.here | exact PickSeg.all | apply PickSeg.there | apply PickSeg.seg)) ?_ | exact Sub.seg0 (by repeat (first | exact PickSeg.here | exact PickSeg.all | apply PickSeg.there | apply PickSeg.seg)) | apply Sub.assoc))), ?_⟩
                refine kt_one ?_
                refine kl_k rfl rfl (n_call Tryd.call58 (w_spec_l20Rd_pick r0p r00a r0.b.length r00c hv86) ?_)
                rintro _ _ ⟨rfl, rfl⟩
                refine ⟨.inl (by (repeat (first | exact Sub.refl _ | exact Sub.nil _ | refine Sub.chunk (by repeat (first | exact Pick.here | apply Pick.there | apply Pick.seg)) (by rfl) ?_ | refine Sub.seg (by repeat (first | exact PickSeg.here | exact PickSeg.all | apply PickSeg.there | apply PickSeg.seg)) ?_ | exact Sub.seg0 (by repeat (first | exact PickSeg.here | exact PickSeg.all | apply PickSeg.there | apply PickSeg.seg)) | apply Sub.assoc))), ?_⟩
                refine kt_one ?_
                refine kl_k rfl rfl (n_call Tryd.call58 (w_spec_l20Rd_pick r0p r00a r0.b.length r00c hv90) ?_)
                rintro _ _ ⟨rfl, rfl⟩
                refine ⟨.inl (by (repeat (first | exact Sub.refl _ | exact Sub.nil _ | refine Sub.chunk (by repeat (first | exact Pick.here | apply Pick.there | apply Pick.seg)) (by rfl) ?_ | refine Sub.seg (by repeat (first | exact PickSeg.here | exact PickSeg.all | apply PickSeg.there | apply PickSeg.seg)) ?_ | exact Sub.seg0 (by repeat (first | exact PickSeg.here | exact PickSeg.all | apply PickSeg.there | apply PickSeg.seg)) | apply Sub.assoc))), ?_⟩
                refine kt_d rfl rfl rfl (v_add) ?_
                refine kt_d rfl rfl rfl (v_bd [(0, _), (1, _), (2, _)] [_, _, _] Tryd.zeroValue36 Tryd.runUnderlying36 pl_36) ?_
                refine kt_one ?_
                refine kl_k rfl rfl (s_B (e' := [.int .i64 v83, .int .i64 v87, .int .i64 (w64 (1 + v91))]) Tryd.sizeOf36 ?_)
                refine ⟨.inl (by (repeat (first | exact Sub.refl _ | exact Sub.nil _ | refine Sub.chunk (by repeat (first | exact Pick.here | apply Pick.there | apply Pick.seg)) (by rfl) ?_ | refine Sub.seg (by repeat (first | exact PickSeg.here | exact PickSeg.all | apply PickSeg.there | apply PickSeg.seg)) ?_ | exact Sub.seg0 (by repeat (first | exact PickSeg.here | exact PickSeg.all | apply PickSeg.there | apply PickSeg.seg)) | apply Sub.assoc))), ?_⟩
                refine kt_nil ?_
                refine kn_then ?_
                exact ⟨p9_94, hd_mk trivial⟩
            ·
              refine kl_k rfl rfl (n_alloc (e := [.int .i64 0, .int .i64 0, .int .i64 0]) 3 Tryd.zeroValue36 (fun p9_94 => ?_))
              refine ⟨.inl (by (repeat (first | exact Sub.refl _ | exact Sub.nil _ | refine Sub.chunk (by repeat (first | exact Pick.here | apply Pick.there | apply Pick.seg)) (by rfl) ?_ | refine Sub.seg (by repeat (first | exact PickSeg.here | exact PickSeg.all | apply PickSeg.there | apply PickSeg.seg)) ?_ | exact Sub.seg0 (by repeat (first | exact PickSeg.here | exact PickSeg.all | apply PickSeg.there | apply PickSeg.seg)) | apply Sub.assoc))), ?_⟩
              refine kt_one ?_
              refine kl_k rfl rfl (n_call Tryd.call58 (w_spec_l20Rd_pick r0p r00a r0.b.length r00c hv82) ?_)
              rintro _ _ ⟨rfl, rfl⟩
              refine ⟨.inl (by (repeat (first | exact Sub.refl _ | exact Sub.nil _ | refine Sub.chunk (by repeat (first | exact Pick.here | apply Pick.there | apply Pick.seg)) (by rfl) ?_ | refine Sub.seg (by repeat (first | exact PickSeg.here | exact PickSeg.all | apply PickSeg.there | apply PickSeg.seg)) ?_ | exact Sub.seg0 (by repeat (first | exact PickSeg.here | exact PickSeg.all | apply PickSeg.there | apply PickSeg.seg)) | apply Sub.assoc))), ?_⟩
              refine kt_one ?_
              refine kl_k rfl rfl (n_call Tryd.call58 (w_spec_l20Rd_pick r0p r00a r0.b.length r00c hv86) ?_)
              rintro _ _ ⟨rfl, rfl⟩
              refine ⟨.inl (by (repeat (first | exact Sub.refl _ | exact Sub.nil _ | refine Sub.chunk (by repeat (first | exact Pick.here | apply Pick.there | apply Pick.seg)) (by rfl) ?_ | refine Sub.seg (by repeat (first | exact PickSeg.here | exact PickSeg.all | apply PickSeg.there | apply PickSeg.seg)) ?_ | exact Sub.seg0 (by repeat (first | exact PickSeg.here | exact PickSeg.all | apply PickSeg.there | apply PickSeg.seg)) | apply Sub.assoc))), ?_⟩
              refine kt_one ?_
              refine kl_k rfl rfl (n_call Tryd.call58 (w_spec_l20Rd_pick r0p r00a r0.b.length r00c hv90) ?_)
              rintro _ _ ⟨rfl, rfl⟩
              refine ⟨.inl (by (repeat (first | exact Sub.refl _ | exact Sub.nil _ | refine Sub.chunk (by repeat (first | exact Pick.here | apply Pick.there | apply Pick.seg)) (by rfl) ?_ | refine Sub.seg (by repeat (first | exact PickSeg.here | exact PickSeg.all | apply PickSeg.there | apply PickSeg.seg)) ?_ | exact Sub.seg0 (by repeat (first | exact PickSeg.here | exact PickSeg.all | apply PickSeg.there | apply PickSeg.seg)) | apply Sub.assoc))), ?_⟩
              refine kt_d rfl rfl rfl (v_add) ?_
              refine kt_d rfl rfl rfl (v_bd [(0, _), (1, _), (2, _)] [_, _, _] Tryd.zeroValue36 Tryd.runUnderlying36 pl_36) ?_
              refine kt_one ?_
              refine kl_k rfl rfl (s_B (e' := [.int .i64 v83, .int .i64 v87, .int .i64 (w64 (1 + v91))]) Tryd.sizeOf36 ?_)
              refine ⟨.inl (by (repeat (first | exact Sub.refl _ | exact Sub.nil _ | refine Sub.chunk (by repeat (first | exact Pick.here | apply Pick.there | apply Pick.seg)) (by rfl) ?_ | refine Sub.seg (by repeat (first | exact PickSeg.here | exact PickSeg.all | apply PickSeg.there | apply PickSeg.seg)) ?_ | exact Sub.seg0 (by repeat (first | exact PickSeg.here | exact PickSeg.all | apply PickSeg.there | apply PickSeg.seg)) | apply Sub.assoc))), ?_⟩
              refine kt_nil ?_
              refine kn_then ?_
              exact ⟨p9_94, hd_mk trivial⟩
          · intro p9_94 _
            refine kn_then ?_
            refine kwp_seq ?_
            refine kwp_region ?_
            refine kd (v_fb fa_36_0) ?_
            refine kd (v_ldb Tryd.isAgg3) ?_
            refine kd (v_fb fa_36_1) ?_
            refine kd (v_ldb Tryd.isAgg3) ?_
            refine kd (v_cmp) ?_
            refine kops_nil ?_
            refine kn_then ?_
            refine kwp_cond rfl (fun hc96 => ?_) (fun hc96 => ?_)
            ·
              replace h80 := e_t h80 hc96
              refine kwp_region ?_
              refine kd (v_fb fa_32_1) ?_
              refine kd (v_ldb Tryd.isAgg30) ?_
              refine kd (v_ldB Tryd.isAgg36 Tryd.sizeOf36) ?_
              refine kk (n_lit (enc := encAirway) [_] ([(⟨v83, v87, w64 (1 + v91)⟩ : Airway)] : List Airway) Tryd.runUnderlying30 Tryd.sizeOf36 Tryd.zeroValue36 (fun a97 => ?_))
              obtain ⟨hz98, h80⟩ := e_need h80
              refine kk (n_app (enc := encAirway) ok_encAirway hz98 Tryd.underlying30 Tryd.type36 (by decide) (fun a99 c100 => ?_))
              refine kd (v_fb fa_32_1) ?_
              refine kk (s_b (e' := [.int .i64 (w64 (2 + v4)), .slice a99 ((aw67 ++ ([(⟨v83, v87, w64 (1 + v91)⟩ : Airway)] : List Airway)).length) c100]) Tryd.sizeOf30 ?_)
              refine kops_nil ?_
              refine kn_block ?_
              refine kn_then ?_
              refine kwp_region ?_
              refine kd (v_mv) ?_
              refine kd (v_sub) ?_
              refine kd (v_as) ?_
              refine kops_nil ?_
              refine kn_then ?_
              obtain rfl := e_some h80
              exact ⟨_, (a99, (aw67 ++ ([(⟨v83, v87, w64 (1 + v91)⟩ : Airway)] : List Airway)).length, c100), rfl, hd_mk trivial⟩
            ·
              replace h80 := e_f h80 hc96
              refine kwp_skip ?_
              refine kn_block ?_
              refine kn_then ?_
              refine kwp_region ?_
              refine kd (v_mv) ?_
              refine kd (v_sub) ?_
              refine kd (v_as) ?_
              refine kops_nil ?_
              refine kn_then ?_
              obtain rfl := e_some h80
              exact ⟨_, (aw67a, aw67.length, aw67c), rfl, hd_mk trivial⟩
        ·
          replace h80 := e_f h80 hc81
          refine kwp_exit ?_
          refine ke_then ?_
          obtain rfl := e_some h80
          refine k_out ?_ rfl
          rintro rfl
          refine ke_block ?_
          exact ⟨(aw67a, aw67.length, aw67c), hd_mk trivial⟩
    · intro z101 y102 _ h103
      obtain ⟨p60, aw61⟩ := z101
      obtain ⟨aw61a, aw61n, aw61c⟩ := y102
      refine k_len (c := aw61c) (fun hl104 => ?_)
      subst hl104
      refine kwp_seq ?_
      refine kwp_seq ?_
      refine kwp_region ?_
      refine kd (v_mv) ?_
      refine kd (v_mv) ?_
      obtain ⟨⟨v106, v107⟩, hv105, h103⟩ := e_bind h103
      refine kk (n_call Tryd.call73 (w_spec_l20Rd_odd r0p r00a r0.b.length r00c hv105) ?_)
      rintro _ _ ⟨rfl, rfl⟩
      refine kops_nil ?_
      refine kn_then ?_
      refine kwp_cond rfl (fun hc109 => ?_) (fun hc109 => ?_)
      ·
        replace h103 := e_t h103 hc109
        refine kwp_seq ?_
        refine kwp_region ?_
        refine kd (v_mv) ?_
        obtain ⟨⟨v111, v112⟩, hv110, h103⟩ := e_bind h103
        refine kk (n_call Tryd.call58 (w_spec_l20Rd_pick r0p r00a r0.b.length r00c hv110) ?_)
        rintro _ _ ⟨rfl, rfl⟩
        refine kops_nil ?_
        refine kn_then ?_
        refine kwp_block ?_
        refine kwp_seq ?_
        refine kwp_region ?_
        refine kd (v_cmp) ?_
        refine kd (v_as) ?_
        refine kops_nil ?_
        refine kn_then ?_
        refine kwp_cond rfl (fun hc114 => ?_) (fun hc114 => ?_)
        ·
          replace h103 := e_t h103 hc114
          refine kwp_region ?_
          refine kk (n_lit (enc := encI) [_, _] ([0, 6] : List Int) Tryd.runUnderlying46 Tryd.sizeOf3 Tryd.zeroValue3 (fun a115 => ?_))
          refine kd (v_mv) ?_
          obtain ⟨⟨v117, v118⟩, hv116, h103⟩ := e_bind h103
          refine kk (n_call Tryd.call58 (w_spec_l20Rd_pick r0p r00a r0.b.length r00c hv116) ?_)
          rintro _ _ ⟨rfl, rfl⟩
          obtain ⟨j120, ej120, nj120, h103⟩ := e_idx h103
          refine kd (v_ia ej120 nj120 Tryd.runUnderlying46 Tryd.sizeOf3) ?_
          refine kd (v_ldf nj120 Tryd.isAgg3) ?_
          refine kd (v_fb fa_32_0) ?_
          refine kk (s_b (e' := [.int .i64 (gx ([0, 6] : List Int) j120), .slice aw61a aw61.length aw61c]) Tryd.sizeOf3 ?_)
          refine kops_nil ?_
          refine kn_block ?_
          refine kn_then ?_
          refine kwp_seq ?_
          refine kwp_region ?_
          refine kd (v_ldB Tryd.isAgg32 Tryd.sizeOf32) ?_
          refine kk (s_B (e' := [.int .i64 (gx ([0, 6] : List Int) j120), .slice aw61a aw61.length aw61c]) Tryd.sizeOf32 ?_)
          refine kops_nil ?_
          refine kn_then ?_
          refine kwp_ret ?_
          obtain rfl := e_some h103
          refine rc Tryd.isAgg32 Tryd.sizeOf32 [⟨.slice aw61a (aw61.length) aw61c, 3, aw61.map encAirway⟩, ⟨.pointer (some r0p), 2, [[.slice r00a r0.b.length r00c, .int .i64 v118]]⟩] ?_
          exact ⟨aw61a, aw61c, rfl, rfl⟩
        ·
          replace h103 := e_f h103 hc114
          refine kwp_seq ?_
          refine kwp_region ?_
          refine kd (v_cmp) ?_
          refine kd (v_as) ?_
          refine kops_nil ?_
          refine kn_then ?_
          refine kwp_cond rfl (fun hc121 => ?_) (fun hc121 => ?_)
          ·
            replace h103 := e_t h103 hc121
            refine kwp_region ?_
            refine kd (v_fb fa_32_1) ?_
            refine kd (v_ldb Tryd.isAgg30) ?_
            refine kd (v_bd [(0, _), (1, _), (2, _)] [_, _, _] Tryd.zeroValue36 Tryd.runUnderlying36 pl_36) ?_
            refine kk (n_lit (enc := encAirway) [_] ([(⟨1, 1, 1⟩ : Airway)] : List Airway) Tryd.runUnderlying30 Tryd.sizeOf36 Tryd.zeroValue36 (fun a122 => ?_))
            obtain ⟨hz123, h103⟩ := e_need h103
            refine kk (n_app (enc := encAirway) ok_encAirway hz123 Tryd.underlying30 Tryd.type36 (by decide) (fun a124 c125 => ?_))
            refine kd (v_fb fa_32_1) ?_
            refine kk (s_b (e' := [.int .i64 (w64 (2 + v4)), .slice a124 ((aw61 ++ ([(⟨1, 1, 1⟩ : Airway)] : List Airway)).length) c125]) Tryd.sizeOf30 ?_)
            refine kops_nil ?_
            refine kn_block ?_
            refine kn_then ?_
            refine kwp_seq ?_
            refine kwp_region ?_
            refine kd (v_ldB Tryd.isAgg32 Tryd.sizeOf32) ?_
            refine kk (s_B (e' := [.int .i64 (w64 (2 + v4)), .slice a124 ((aw61 ++ ([(⟨1, 1, 1⟩ : Airway)] : List Airway)).length) c125]) Tryd.sizeOf32 ?_)
            refine kops_nil ?_
            refine kn_then ?_
            refine kwp_ret ?_
            obtain rfl := e_some h103
            refine rc Tryd.isAgg32 Tryd.sizeOf32 [⟨.slice a124 ((aw61 ++ ([(⟨1, 1, 1⟩ : Airway)] : List Airway)).length) c125, 3, (aw61 ++ ([(⟨1, 1, 1⟩ : Airway)] : List Airway)).map encAirway⟩, ⟨.pointer (some r0p), 2, [[.slice r00a r0.b.length r00c, .int .i64 v112]]⟩] ?_
            exact ⟨a124, c125, rfl, rfl⟩
          ·
            replace h103 := e_f h103 hc121
            refine kwp_seq ?_
            refine kwp_region ?_
            refine kd (v_cmp) ?_
            refine kd (v_as) ?_
            refine kops_nil ?_
            refine kn_then ?_
            refine kwp_cond rfl (fun hc126 => ?_) (fun hc126 => ?_)
            ·
              replace h103 := e_t h103 hc126
              obtain ⟨⟨v129, v130⟩, hv128, h103⟩ := e_bind h103
              obtain ⟨j132, ej132, nj132, h103⟩ := e_idx h103
              obtain ⟨hz134, h103⟩ := e_need h103
              refine kwp_cutS (inv := [(4, .pointer (some p4_2)), (5, .pointer (some p5_7))]) (fun (y : Option Addr × Nat) => []) (fun (y : Option Addr × Nat) => [⟨.pointer (some p4_2), 2, [[.int .i64 0, .slice none 0 0]]⟩, ⟨.slice none 0 0, 3, ([] : List Airway).map encAirway⟩, ⟨.pointer (some p5_7), 2, [[.int .i64 (w64 (2 + v4)), .slice y.1 ((aw61 ++ ([(⟨0, 1, gx ([0, 7] : List Int) j132⟩ : Airway)] : List Airway)).length) y.2]]⟩, ⟨.slice y.1 ((aw61 ++ ([(⟨0, 1, gx ([0, 7] : List Int) j132⟩ : Airway)] : List Airway)).length) y.2, 3, (aw61 ++ ([(⟨0, 1, gx ([0, 7] : List Int) j132⟩ : Airway)] : List Airway)).map encAirway⟩, ⟨.pointer (some r0p), 2, [[.slice r00a r0.b.length r00c, .int .i64 v130]]⟩]) (fun (y : Option Addr × Nat) => True) ?_ ?_
              ·
                refine kwp_tree (.quiet 0 (.quiet 1 (.quiet 3 (.two 2 (.one 4 (.one 5 (.one 6 (.quiet 7 (.one 8 (.one 9 (.quiet 10 (.one 11 .stop)))))))) 4 (.one 2 (.one 5 (.one 6 (.quiet 7 (.one 8 (.one 9 (.quiet 10 (.one 11 .stop)))))))))))) [11] [⟨.pointer (some p5_7), 2, [[.int .i64 (w64 (2 + v4)), .slice aw61a aw61.length aw61c]]⟩] drawMixed (by kernel_rfl) nopan (by (repeat (first | exact Sub.refl _ | exact Sub.nil _ | refine Sub.chunk (by repeat (first | exact Pick.here | apply Pick.there | apply Pick.seg)) (by rfl) ?_ | refine Sub.seg (by repeat (first | exact PickSeg.here | exact PickSeg.all | apply PickSeg.there | apply PickSeg.seg)) ?_ | exact Sub.seg0 (by repeat (first | exact PickSeg.here | exact PickSeg.all | apply PickSeg.there | apply PickSeg.seg)) | apply Sub.assoc))) ?_
                refine kt_d rfl rfl rfl (v_fb fa_32_1) ?_
                refine kt_d rfl rfl rfl (v_ldb Tryd.isAgg30) ?_
                refine kt_d rfl rfl rfl (v_mv) ?_
                refine kt_two ?_ ?_
                ·
                  refine kl_k rfl rfl (n_lit (enc := encI) [_, _] ([0, 7] : List Int) Tryd.runUnderlying46 Tryd.sizeOf3 Tryd.zeroValue3 (fun a127 => ?_))
                  refine ⟨.inl (by (repeat (first | exact Sub.refl _ | exact Sub.nil _ | refine Sub.chunk (by repeat (first | exact Pick.here | apply Pick.there | apply Pick.seg)) (by rfl) ?_ | refine Sub.seg (by repeat (first | exact PickSeg.here | exact PickSeg.all | apply PickSeg.there | apply PickSeg.seg)) ?_ | exact Sub.seg0 (by repeat (first | exact PickSeg.here | exact PickSeg.all | apply PickSeg.there | apply PickSeg.seg)) | apply Sub.assoc))), ?_⟩
                  refine kt_one ?_
                  refine kl_k rfl rfl (n_call Tryd.call58 (w_spec_l20Rd_pick r0p r00a r0.b.length r00c hv128) ?_)
                  rintro _ _ ⟨rfl, rfl⟩
                  refine ⟨.inl (by (repeat (first | exact Sub.refl _ | exact Sub.nil _ | refine Sub.chunk (by repeat (first | exact Pick.here | apply Pick.there | apply Pick.seg)) (by rfl) ?_ | refine Sub.seg (by repeat (first | exact PickSeg.here | exact PickSeg.all | apply PickSeg.there | apply PickSeg.seg)) ?_ | exact Sub.seg0 (by repeat (first | exact PickSeg.here | exact PickSeg.all | apply PickSeg.there | apply PickSeg.seg)) | apply Sub.assoc))), ?_⟩
                  refine kt_dk rfl rfl rfl (by (repeat (first | exact Sub.refl _ | exact Sub.nil _ | refine Sub.chunk (by repeat (first | exact Pick.here | apply Pick.there | apply Pick.seg)) (by rfl) ?_ | refine Sub.seg (by repeat (first | exact PickSeg.here | exact PickSeg.all | apply PickSeg.there | apply PickSeg.seg)) ?_ | exact Sub.seg0 (by repeat (first | exact PickSeg.here | exact PickSeg.all | apply PickSeg.there | apply PickSeg.seg)) | apply Sub.assoc))) (v_ia ej132 nj132 Tryd.runUnderlying46 Tryd.sizeOf3) ?_
                  refine kt_dk rfl rfl rfl (by (repeat (first | exact Sub.refl _ | exact Sub.nil _ | refine Sub.chunk (by repeat (first | exact Pick.here | apply Pick.there | apply Pick.seg)) (by rfl) ?_ | refine Sub.seg (by repeat (first | exact PickSeg.here | exact PickSeg.all | apply PickSeg.there | apply PickSeg.seg)) ?_ | exact Sub.seg0 (by repeat (first | exact PickSeg.here | exact PickSeg.all | apply PickSeg.there | apply PickSeg.seg)) | apply Sub.assoc))) (v_ldf nj132 Tryd.isAgg3) ?_
                  refine kt_d rfl rfl rfl (v_bd [(0, _), (1, _), (2, _)] [_, _, _] Tryd.zeroValue36 Tryd.runUnderlying36 pl_36) ?_
                  refine kt_one ?_
                  refine kl_k rfl rfl (n_lit (enc := encAirway) [_] ([(⟨0, 1, gx ([0, 7] : List Int) j132⟩ : Airway)] : List Airway) Tryd.runUnderlying30 Tryd.sizeOf36 Tryd.zeroValue36 (fun a133 => ?_))
                  refine ⟨.inl (by (repeat (first | exact Sub.refl _ | exact Sub.nil _ | refine Sub.chunk (by repeat (first | exact Pick.here | apply Pick.there | apply Pick.seg)) (by rfl) ?_ | refine Sub.seg (by repeat (first | exact PickSeg.here | exact PickSeg.all | apply PickSeg.there | apply PickSeg.seg)) ?_ | exact Sub.seg0 (by repeat (first | exact PickSeg.here | exact PickSeg.all | apply PickSeg.there | apply PickSeg.seg)) | apply Sub.assoc))), ?_⟩
                  refine kt_one ?_
                  refine kl_k rfl rfl (n_app (enc := encAirway) ok_encAirway hz134 Tryd.underlying30 Tryd.type36 (by decide) (fun a135 c136 => ?_))
                  refine ⟨.inl (by (repeat (first | exact Sub.refl _ | exact Sub.nil _ | refine Sub.chunk (by repeat (first | exact Pick.here | apply Pick.there | apply Pick.seg)) (by rfl) ?_ | refine Sub.seg (by repeat (first | exact PickSeg.here | exact PickSeg.all | apply PickSeg.there | apply PickSeg.seg)) ?_ | exact Sub.seg0 (by repeat (first | exact PickSeg.here | exact PickSeg.all | apply PickSeg.there | apply PickSeg.seg)) | apply Sub.assoc))), ?_⟩
                  refine kt_d rfl rfl rfl (v_fb fa_32_1) ?_
                  refine kt_one ?_
                  refine kl_k rfl rfl (s_b (e' := [.int .i64 (w64 (2 + v4)), .slice a135 ((aw61 ++ ([(⟨0, 1, gx ([0, 7] : List Int) j132⟩ : Airway)] : List Airway)).length) c136]) Tryd.sizeOf30 ?_)
                  refine ⟨.inr ⟨by decide, rfl⟩, ?_⟩
                  refine kt_nil ?_
                  refine kn_then ?_
                  exact ⟨(a135, c136), hd_mk trivial⟩
                ·
                  refine kl_k rfl rfl (n_call Tryd.call58 (w_spec_l20Rd_pick r0p r00a r0.b.length r00c hv128) ?_)
                  rintro _ _ ⟨rfl, rfl⟩
                  refine ⟨.inl (by (repeat (first | exact Sub.refl _ | exact Sub.nil _ | refine Sub.chunk (by repeat (first | exact Pick.here | apply Pick.there | apply Pick.seg)) (by rfl) ?_ | refine Sub.seg (by repeat (first | exact PickSeg.here | exact PickSeg.all | apply PickSeg.there | apply PickSeg.seg)) ?_ | exact Sub.seg0 (by repeat (first | exact PickSeg.here | exact PickSeg.all | apply PickSeg.there | apply PickSeg.seg)) | apply Sub.assoc))), ?_⟩
                  refine kt_one ?_
                  refine kl_k rfl rfl (n_lit (enc := encI) [_, _] ([0, 7] : List Int) Tryd.runUnderlying46 Tryd.sizeOf3 Tryd.zeroValue3 (fun a127 => ?_))
                  refine ⟨.inl (by (repeat (first | exact Sub.refl _ | exact Sub.nil _ | refine Sub.chunk (by repeat (first | exact Pick.here | apply Pick.there | apply Pick.seg)) (by rfl) ?_ | refine Sub.seg (by repeat (first | exact PickSeg.here | exact PickSeg.all | apply PickSeg.there | apply PickSeg.seg)) ?_ | exact Sub.seg0 (by repeat (first | exact PickSeg.here | exact PickSeg.all | apply PickSeg.there | apply PickSeg.seg)) | apply Sub.assoc))), ?_⟩
                  refine kt_dk rfl rfl rfl (by (repeat (first | exact Sub.refl _ | exact Sub.nil _ | refine Sub.chunk (by repeat (first | exact Pick.here | apply Pick.there | apply Pick.seg)) (by rfl) ?_ | refine Sub.seg (by repeat (first | exact PickSeg.here | exact PickSeg.all | apply PickSeg.there | apply PickSeg.seg)) ?_ | exact Sub.seg0 (by repeat (first | exact PickSeg.here | exact PickSeg.all | apply PickSeg.there | apply PickSeg.seg)) | apply Sub.assoc))) (v_ia ej132 nj132 Tryd.runUnderlying46 Tryd.sizeOf3) ?_
                  refine kt_dk rfl rfl rfl (by (repeat (first | exact Sub.refl _ | exact Sub.nil _ | refine Sub.chunk (by repeat (first | exact Pick.here | apply Pick.there | apply Pick.seg)) (by rfl) ?_ | refine Sub.seg (by repeat (first | exact PickSeg.here | exact PickSeg.all | apply PickSeg.there | apply PickSeg.seg)) ?_ | exact Sub.seg0 (by repeat (first | exact PickSeg.here | exact PickSeg.all | apply PickSeg.there | apply PickSeg.seg)) | apply Sub.assoc))) (v_ldf nj132 Tryd.isAgg3) ?_
                  refine kt_d rfl rfl rfl (v_bd [(0, _), (1, _), (2, _)] [_, _, _] Tryd.zeroValue36 Tryd.runUnderlying36 pl_36) ?_
                  refine kt_one ?_
                  refine kl_k rfl rfl (n_lit (enc := encAirway) [_] ([(⟨0, 1, gx ([0, 7] : List Int) j132⟩ : Airway)] : List Airway) Tryd.runUnderlying30 Tryd.sizeOf36 Tryd.zeroValue36 (fun a133 => ?_))
                  refine ⟨.inl (by (repeat (first | exact Sub.refl _ | exact Sub.nil _ | refine Sub.chunk (by repeat (first | exact Pick.here | apply Pick.there | apply Pick.seg)) (by rfl) ?_ | refine Sub.seg (by repeat (first | exact PickSeg.here | exact PickSeg.all | apply PickSeg.there | apply PickSeg.seg)) ?_ | exact Sub.seg0 (by repeat (first | exact PickSeg.here | exact PickSeg.all | apply PickSeg.there | apply PickSeg.seg)) | apply Sub.assoc))), ?_⟩
                  refine kt_one ?_
                  refine kl_k rfl rfl (n_app (enc := encAirway) ok_encAirway hz134 Tryd.underlying30 Tryd.type36 (by decide) (fun a135 c136 => ?_))
                  refine ⟨.inl (by (repeat (first | exact Sub.refl _ | exact Sub.nil _ | refine Sub.chunk (by repeat (first | exact Pick.here | apply Pick.there | apply Pick.seg)) (by rfl) ?_ | refine Sub.seg (by repeat (first | exact PickSeg.here | exact PickSeg.all | apply PickSeg.there | apply PickSeg.seg)) ?_ | exact Sub.seg0 (by repeat (first | exact PickSeg.here | exact PickSeg.all | apply PickSeg.there | apply PickSeg.seg)) | apply Sub.assoc))), ?_⟩
                  refine kt_d rfl rfl rfl (v_fb fa_32_1) ?_
                  refine kt_one ?_
                  refine kl_k rfl rfl (s_b (e' := [.int .i64 (w64 (2 + v4)), .slice a135 ((aw61 ++ ([(⟨0, 1, gx ([0, 7] : List Int) j132⟩ : Airway)] : List Airway)).length) c136]) Tryd.sizeOf30 ?_)
                  refine ⟨.inr ⟨by decide, rfl⟩, ?_⟩
                  refine kt_nil ?_
                  refine kn_then ?_
                  exact ⟨(a135, c136), hd_mk trivial⟩
              · intro y137 _
                obtain ⟨a135, c136⟩ := y137
                refine kn_block ?_
                refine kn_then ?_
                refine kwp_seq ?_
                refine kwp_region ?_
                refine kd (v_ldB Tryd.isAgg32 Tryd.sizeOf32) ?_
                refine kk (s_B (e' := [.int .i64 (w64 (2 + v4)), .slice a135 ((aw61 ++ ([(⟨0, 1, gx ([0, 7] : List Int) j132⟩ : Airway)] : List Airway)).length) c136]) Tryd.sizeOf32 ?_)
                refine kops_nil ?_
                refine kn_then ?_
                refine kwp_ret ?_
                obtain rfl := e_some h103
                refine rc Tryd.isAgg32 Tryd.sizeOf32 [⟨.slice a135 ((aw61 ++ ([(⟨0, 1, gx ([0, 7] : List Int) j132⟩ : Airway)] : List Airway)).length) c136, 3, (aw61 ++ ([(⟨0, 1, gx ([0, 7] : List Int) j132⟩ : Airway)] : List Airway)).map encAirway⟩, ⟨.pointer (some r0p), 2, [[.slice r00a r0.b.length r00c, .int .i64 v130]]⟩] ?_
                exact ⟨a135, c136, rfl, rfl⟩
            ·
              replace h103 := e_f h103 hc126
              refine kwp_region ?_
              obtain ⟨j138, ej138, nj138, h103⟩ := e_sized h103
              refine kk (n_make (enc := encAirway) (⟨0, 0, 0⟩ : Airway) ej138 nj138 Tryd.underlying30 Tryd.type36 (by decide) (fun a139 => ?_))
              refine kd (v_fb fa_32_1) ?_
              refine kk (s_b (e' := [.int .i64 (w64 (2 + v4)), .slice (some a139) j138 j138]) Tryd.sizeOf30 ?_)
              refine kops_nil ?_
              refine kn_block ?_
              refine kn_then ?_
              refine kwp_seq ?_
              refine kwp_region ?_
              refine kd (v_ldB Tryd.isAgg32 Tryd.sizeOf32) ?_
              refine kk (s_B (e' := [.int .i64 (w64 (2 + v4)), .slice (some a139) j138 j138]) Tryd.sizeOf32 ?_)
              refine kops_nil ?_
              refine kn_then ?_
              refine k_len (c := j138) (fun hl140 => ?_)
              refine kwp_ret ?_
              obtain rfl := e_some h103
              refine rc Tryd.isAgg32 Tryd.sizeOf32 [⟨.slice (some a139) j138 j138, 3, (List.replicate j138 (⟨0, 0, 0⟩ : Airway)).map encAirway⟩, ⟨.pointer (some r0p), 2, [[.slice r00a r0.b.length r00c, .int .i64 v112]]⟩] ?_
              exact ⟨some a139, j138, by first | rfl | (rw [← hl140] <;> rfl) | ((try dsimp only); rw [← hl140] <;> rfl) | (simp; done), by first | rfl | (rw [← hl140] <;> rfl) | ((try dsimp only); rw [← hl140] <;> rfl) | (simp; done)⟩
      ·
        replace h103 := e_f h103 hc109
        refine kwp_skip ?_
        refine kn_then ?_
        refine kwp_seq ?_
        refine kwp_region ?_
        refine kd (v_ldB Tryd.isAgg32 Tryd.sizeOf32) ?_
        refine kk (s_B (e' := [.int .i64 (w64 (2 + v4)), .slice aw61a aw61.length aw61c]) Tryd.sizeOf32 ?_)
        refine kops_nil ?_
        refine kn_then ?_
        refine kwp_ret ?_
        obtain rfl := e_some h103
        refine rc Tryd.isAgg32 Tryd.sizeOf32 [⟨.slice aw61a (aw61.length) aw61c, 3, aw61.map encAirway⟩, ⟨.pointer (some r0p), 2, [[.slice r00a r0.b.length r00c, .int .i64 v107]]⟩] ?_
        exact ⟨aw61a, aw61c, rfl, rfl⟩

set_option maxRecDepth 20000 in
theorem w_spec_l20PlaceOf (r0p : Addr) (r00a : Option Addr) (r00n : Nat) (r00c : Nat) (m01a : Option Addr) (m01n : Nat) (m01c : Nat) {r0 : Rd} {m0 : Mine} {r : Int × Int} (h : p_spec_l20PlaceOf r0 m0 = some r) :
    Triple Tryd.prog 95 [.pointer (some r0p), .agg #[.int .i64 m0.p, .slice m01a m01n m01c]] [⟨.slice r00a r00n r00c, 1, r0.b.map encB⟩, ⟨.slice m01a m01n m01c, 3, m0.aw.map encAirway⟩] [⟨.pointer (some r0p), 2, [[.slice r00a r00n r00c, .int .i64 r0.p]]⟩] (fun v ch => v = .int .i64 r.1 ∧ ch = [⟨.pointer (some r0p), 2, [[.slice r00a r00n r00c, .int .i64 r.2]]⟩]) := by
  refine triple_start 20 Tryd.func95 Tryd.ntmps95 rfl rfl (fun w0 => ?_)
  refine k_len (c := r00c) (fun hl1 => ?_)
  subst hl1
  refine k_len (c := m01c) (fun hl2 => ?_)
  subst hl2
  unfold p_spec_l20PlaceOf at h
  refine kwp_seq ?_
  refine kwp_region ?_
  refine kk (n_box (e := [.int .i64 m0.p, .slice m01a m0.aw.length m01c]) 2 (fun p3_3 => ?_))
  refine kd (v_as) ?_
  refine kops_nil ?_
  refine kn_then ?_
  refine kwp_seq ?_
  refine kwp_region ?_
  refine kd (v_mv) ?_
  refine kd (v_fb fa_32_0) ?_
  refine kd (v_ldb Tryd.isAgg3) ?_
  refine kd (v_max) ?_
  obtain ⟨⟨v5, v6⟩, hv4, h⟩ := e_bind h
  refine kk (n_call Tryd.call58 (w_spec_l20Rd_pick r0p r00a r0.b.length r00c hv4) ?_)
  rintro _ _ ⟨rfl, rfl⟩
  refine kd (v_mv) ?_
  obtain ⟨⟨v9, v10⟩, hv8, h⟩ := e_bind h
  refine kk (n_call Tryd.call58 (w_spec_l20Rd_pick r0p r00a r0.b.length r00c hv8) ?_)
  rintro _ _ ⟨rfl, rfl⟩
  refine kd (v_quo) ?_
  refine kd (v_mul) ?_
  refine kd (v_add) ?_
  refine kd (v_mv) ?_
  obtain ⟨⟨v13, v14⟩, hv12, h⟩ := e_bind h
  refine kk (n_call Tryd.call58 (w_spec_l20Rd_pick r0p r00a r0.b.length r00c hv12) ?_)
  rintro _ _ ⟨rfl, rfl⟩
  refine kd (v_quo) ?_
  refine kd (v_mul) ?_
  refine kd (v_sub) ?_
  refine kd (v_as) ?_
  refine kops_nil ?_
  refine kn_then ?_
  refine kwp_ret ?_
  obtain rfl := e_some h
  refine r1 [⟨.pointer (some r0p), 2, [[.slice r00a r0.b.length r00c, .int .i64 v14]]⟩] ?_
  exact ⟨rfl, rfl⟩

end Go.Proofs.YtpfijnklnljccaaDoor
