/- What the plain programs return, the functions of the program return; no condition. -/
import Derived.Test.YtpfijnklnljccaaDoorZQ
import Derived.Test.YtpfijnklnljccaaDoorZFa
import Derived.Test.YtpfijnklnljccaaDoorZVbm
import Derived.Test.YtpfijnklnljccaaDoorZVbo
namespace Go.Proofs.YtpfijnklnljccaaDoor
open Go
set_option linter.unusedVariables false
set_option linter.unusedSimpArgs false

set_option maxRecDepth 20000 in
set_option maxHeartbeats 2000000 in
theorem w_spec_l20Flow (r0p : Addr) (r00a : Option Addr) (r00n : Nat) (r00c : Nat) {r0 : Rd} {r : Mine × Int × Int × Int × List Int × Int} (h : p_spec_l20Flow r0 = some r) :
    Triple Tryd.prog 72 [.pointer (some r0p)] [⟨.slice r00a r00n r00c, 1, r0.b.map encB⟩] [⟨.pointer (some r0p), 2, [[.slice r00a r00n r00c, .int .i64 r0.p]]⟩] (fun v ch => ∃ (w01a : Option Addr) (w01c : Nat) (w4a : Option Addr) (w4c : Nat), v = .tuple #[.agg #[.int .i64 r.1.p, .slice w01a r.1.aw.length w01c], .int .i64 r.2.1, .int .i64 r.2.2.1, .int .i64 r.2.2.2.1, .slice w4a r.2.2.2.2.1.length w4c] ∧ ch = [⟨.slice w01a r.1.aw.length w01c, 3, r.1.aw.map encAirway⟩, ⟨.slice w4a r.2.2.2.2.1.length w4c, 1, r.2.2.2.2.1.map encI⟩, ⟨.pointer (some r0p), 2, [[.slice r00a r00n r00c, .int .i64 r.2.2.2.2.2]]⟩]) := by
  refine triple_start 144 Tryd.func72 Tryd.ntmps72 rfl rfl (fun w0 => ?_)
  refine k_len (c := r00c) (fun hl1 => ?_)
  subst hl1
  unfold p_spec_l20Flow at h
  refine kwp_seq ?_
  refine kwp_region ?_
  refine kops_nilchunk 3 (by decide) ?_
  refine kk (n_alloc (e := [.int .i64 0, .slice none 0 0]) 2 Tryd.zeroValue32 (fun p2_2 => ?_))
  refine kd (v_as) ?_
  refine kd (v_as) ?_
  refine kd (v_as) ?_
  refine kops_nilchunk 1 (by decide) ?_
  refine kd (v_as) ?_
  refine kops_nil ?_
  refine kn_then ?_
  refine kwp_seq ?_
  refine kwp_region ?_
  refine kd (v_mv) ?_
  obtain ⟨⟨v4, v5⟩, hv3, h⟩ := e_bind h
  refine kk (n_call Tryd.call62 (w_spec_l20Mine r0p r00a r0.b.length r00c hv3) ?_)
  rintro _ _ ⟨q61a, q61c, rfl, rfl⟩
  refine kops_nilchunk 3 (by decide) ?_
  refine kk (n_alloc (e := [.int .i64 0, .slice none 0 0]) 2 Tryd.zeroValue32 (fun p7_7 => ?_))
  refine kk (s_B (e' := [.int .i64 v4.p, .slice q61a v4.aw.length q61c]) Tryd.sizeOf32 ?_)
  refine kops_nil ?_
  refine kn_then ?_
  refine kwp_seq ?_
  refine kwp_region ?_
  refine kd (v_mv) ?_
  refine kd (v_ldB Tryd.isAgg32 Tryd.sizeOf32) ?_
  obtain ⟨⟨v9, v10⟩, hv8, h⟩ := e_bind h
  refine kk (n_call Tryd.call95 (w_spec_l20PlaceOf r0p r00a r0.b.length r00c q61a v4.aw.length q61c hv8) ?_)
  rintro _ _ ⟨rfl, rfl⟩
  refine kd (v_as) ?_
  refine kops_nil ?_
  refine kn_then ?_
  refine kwp_seq ?_
  refine kwp_region ?_
  refine kd (v_mv) ?_
  refine kd (v_ldB Tryd.isAgg32 Tryd.sizeOf32) ?_
  obtain ⟨⟨v13, v14⟩, hv12, h⟩ := e_bind h
  refine kk (n_call Tryd.call95 (w_spec_l20PlaceOf r0p r00a r0.b.length r00c q61a v4.aw.length q61c hv12) ?_)
  rintro _ _ ⟨rfl, rfl⟩
  refine kd (v_as) ?_
  refine kops_nil ?_
  refine kn_then ?_
  refine kwp_seq ?_
  refine kwp_region ?_
  refine kd (v_mv) ?_
  obtain ⟨⟨v17, v18⟩, hv16, h⟩ := e_bind h
  refine kk (n_call Tryd.call58 (w_spec_l20Rd_pick r0p r00a r0.b.length r00c hv16) ?_)
  rintro _ _ ⟨rfl, rfl⟩
  refine kd (v_sub) ?_
  refine kd (v_as) ?_
  refine kops_nil ?_
  refine kn_then ?_
  refine kwp_seq ?_
  refine kwp_region ?_
  refine kd (v_ldB Tryd.isAgg32 Tryd.sizeOf32) ?_
  obtain ⟨v21, hv20, h⟩ := e_bind h
  refine kk (n_call Tryd.call76 (w_spec_l3Survey q61a v4.aw.length q61c hv20) ?_)
  rintro _ _ ⟨q221a, q221c, rfl, rfl⟩
  refine kd (v_mv) ?_
  refine kd (v_mv) ?_
  obtain ⟨⟨v24, v25⟩, hv23, h⟩ := e_bind h
  refine kk (n_call Tryd.call96 (w_spec_TreeWay q221a v21.legs.length q221c hv23) ?_)
  rintro _ _ ⟨q26a, q26c, rfl, rfl⟩
  refine kd (v_mv) ?_
  refine kd (v_ex) ?_
  refine kd (v_ex) ?_
  refine kd (v_as) ?_
  refine kd (v_as) ?_
  refine kops_nil ?_
  refine kn_then ?_
  refine kwp_seq ?_
  refine kwp_region ?_
  refine kd (v_fb fa_32_1) ?_
  refine kd (v_ldb Tryd.isAgg30) ?_
  refine kd (v_len Tryd.runUnderlying30) ?_
  obtain ⟨j28, ej28, nj28, h⟩ := e_sized h
  refine kk (n_make (enc := encI) 0 ej28 nj28 Tryd.underlying46 Tryd.type3 (by decide) (fun a29 => ?_))
  refine kd (v_as) ?_
  refine kops_nil ?_
  refine kn_then ?_
  refine kwp_seq ?_
  refine kwp_seq ?_
  refine kwp_region ?_
  refine kd (v_as) ?_
  refine kops_nil ?_
  refine kn_then ?_
  refine kwp_cutE (inv := [(0, .pointer (some r0p)), (2, .pointer (some p2_2)), (7, .pointer (some p7_7)), (8, .int .i64 v9), (9, .int .i64 v13), (10, .int .i64 (w64 (v17 - 2))), (13, .slice (some a29) j28 j28)]) (fun (z : List Int) (y : Unit) => []) (fun (z : List Int) (y : Unit) => [⟨.slice (some a29) j28 j28, 1, z.map encI⟩, ⟨.pointer (some r0p), 2, [[.slice r00a r0.b.length r00c, .int .i64 v18]]⟩, ⟨.pointer (some p2_2), 2, [[.int .i64 0, .slice none 0 0]]⟩, ⟨.slice none 0 0, 3, ([] : List Airway).map encAirway⟩, ⟨.pointer (some p7_7), 2, [[.int .i64 v4.p, .slice q61a v4.aw.length q61c]]⟩, ⟨.slice q61a v4.aw.length q61c, 3, v4.aw.map encAirway⟩]) (fun _ _ => True) h ?_ ?_
  · intro t33 h31
    refine kwp_block ?_
    refine kwp_loopE (inv := [(0, .pointer (some r0p)), (2, .pointer (some p2_2)), (7, .pointer (some p7_7)), (8, .int .i64 v9), (9, .int .i64 v13), (10, .int .i64 (w64 (v17 - 2))), (11, .slice q26a v24.length q26c), (12, .bool v25), (13, .slice (some a29) j28 j28)]) (fun (z : Int × List Int) (y : Unit) => [(14, .int .i64 z.1)]) (fun (z : Int × List Int) (y : Unit) => [⟨.slice (some a29) j28 j28, 1, z.2.map encI⟩, ⟨.pointer (some r0p), 2, [[.slice r00a r0.b.length r00c, .int .i64 v18]]⟩, ⟨.pointer (some p2_2), 2, [[.int .i64 0, .slice none 0 0]]⟩, ⟨.slice none 0 0, 3, ([] : List Airway).map encAirway⟩, ⟨.pointer (some p7_7), 2, [[.int .i64 v4.p, .slice q61a v4.aw.length q61c]]⟩, ⟨.slice q61a v4.aw.length q61c, 3, v4.aw.map encAirway⟩, ⟨.slice q26a v24.length q26c, 2, v24.map encStep⟩]) (fun _ _ => True) h31 ⟨(), hd_mk trivial⟩ ?_
    intro z38 y39 b36 _ h37
    obtain ⟨k34, l35⟩ := z38
    unfold p_spec_l20Flow_L0 at h37
    refine kwp_seq ?_
    refine kwp_seq ?_
    refine kwp_cutE (inv := [(0, .pointer (some r0p)), (2, .pointer (some p2_2)), (7, .pointer (some p7_7)), (8, .int .i64 v9), (9, .int .i64 v13), (10, .int .i64 (w64 (v17 - 2))), (11, .slice q26a v24.length q26c), (12, .bool v25), (13, .slice (some a29) j28 j28), (14, .int .i64 k34)]) (fun (z : Bool) (y : Unit) => [(50, .bool z)]) (fun (z : Bool) (y : Unit) => [⟨.pointer (some r0p), 2, [[.slice r00a r0.b.length r00c, .int .i64 v18]]⟩, ⟨.pointer (some p2_2), 2, [[.int .i64 0, .slice none 0 0]]⟩, ⟨.slice none 0 0, 3, ([] : List Airway).map encAirway⟩, ⟨.pointer (some p7_7), 2, [[.int .i64 v4.p, .slice q61a v4.aw.length q61c]]⟩, ⟨.slice q61a v4.aw.length q61c, 3, v4.aw.map encAirway⟩, ⟨.slice q26a v24.length q26c, 2, v24.map encStep⟩, ⟨.slice (some a29) j28 j28, 1, l35.map encI⟩]) (fun _ _ => True) h37 ?_ ?_
    · intro t43 h41
      refine kwp_region ?_
      refine kd (v_mv) ?_
      refine kd (v_mv) ?_
      refine kd (v_len Tryd.runUnderlying108) ?_
      refine kd (v_cmp) ?_
      refine kd (v_mv) ?_
      refine kops_split 48 rfl (fun hb44 => ?_) (fun hb44 => ?_)
      ·
        replace h41 := e_t h41 hb44
        refine kgd hb44 (v_mv) ?_
        refine kd (v_pt hb44) ?_
        refine kops_nil ?_
        refine kn_then ?_
        obtain rfl := e_some h41
        exact ⟨(), hd_mk trivial⟩
      ·
        replace h41 := e_f h41 hb44
        refine kskip hb44 ?_
        refine kd (v_pf hb44) ?_
        refine kops_nil ?_
        refine kn_then ?_
        obtain rfl := e_some h41
        exact ⟨(), hd_mk trivial⟩
    · intro x40 y46 _ h47
      refine kn_then ?_
      refine kwp_cond rfl (fun hc48 => ?_) (fun hc48 => ?_)
      ·
        replace h47 := e_t h47 hc48
        refine kwp_skip ?_
        refine kn_then ?_
        refine kwp_seq ?_
        refine kwp_block ?_
        refine kwp_seq ?_
        refine kwp_region ?_
        refine kd (v_mv) ?_
        refine kd (v_mv) ?_
        refine kd (v_mv) ?_
        obtain ⟨j49, ej49, nj49, h47⟩ := e_idx h47
        refine kd (v_ia ej49 nj49 Tryd.runUnderlying108 Tryd.sizeOf112) ?_
        refine kd (v_fa nj49 fa_112_0) ?_
        refine kd (v_ldf nj49 Tryd.isAgg3) ?_
        refine kd (v_mv) ?_
        obtain ⟨j50, ej50, nj50, h47⟩ := e_idx h47
        refine kd (v_ia ej50 nj50 Tryd.runUnderlying46 Tryd.sizeOf3) ?_
        refine kk (s_f (w64 (v17 - 2)) nj50 Tryd.sizeOf3 ?_)
        refine kops_nil ?_
        refine kn_then ?_
        refine kwp_seq ?_
        refine kwp_region ?_
        refine kd (v_mv) ?_
        refine kd (v_mv) ?_
        refine kd (v_ia ej49 nj49 Tryd.runUnderlying108 Tryd.sizeOf112) ?_
        refine kd (v_fa nj49 fa_112_1) ?_
        refine kd (v_ldf nj49 Tryd.isAgg4) ?_
        refine kops_nil ?_
        refine kn_then ?_
        refine kwp_cond rfl (fun hc51 => ?_) (fun hc51 => ?_)
        ·
          replace h47 := e_t h47 hc51
          refine kwp_region ?_
          refine kd (v_mv) ?_
          refine kd (v_mv) ?_
          refine kd (v_mv) ?_
          refine kd (v_ia ej49 nj49 Tryd.runUnderlying108 Tryd.sizeOf112) ?_
          refine kd (v_fa nj49 fa_112_0) ?_
          refine kd (v_ldf nj49 Tryd.isAgg3) ?_
          refine kd (v_mv) ?_
          refine kd (v_neg) ?_
          refine kd (v_ia ej50 nj50 Tryd.runUnderlying46 Tryd.sizeOf3) ?_
          refine kk (s_f (w64 (-(w64 (v17 - 2)))) nj50 Tryd.sizeOf3 ?_)
          refine kops_nil ?_
          refine kn_block ?_
          refine kn_then ?_
          refine kwp_region ?_
          refine kd (v_mv) ?_
          refine kd (v_add) ?_
          refine kd (v_as) ?_
          refine kops_nil ?_
          refine kn_then ?_
          obtain rfl := e_some h47
          exact ⟨_, (), rfl, hd_mk trivial⟩
        ·
          replace h47 := e_f h47 hc51
          refine kwp_skip ?_
          refine kn_block ?_
          refine kn_then ?_
          refine kwp_region ?_
          refine kd (v_mv) ?_
          refine kd (v_add) ?_
          refine kd (v_as) ?_
          refine kops_nil ?_
          refine kn_then ?_
          obtain rfl := e_some h47
          exact ⟨_, (), rfl, hd_mk trivial⟩
      ·
        replace h47 := e_f h47 hc48
        refine kwp_exit ?_
        refine ke_then ?_
        obtain rfl := e_some h47
        refine k_out ?_ rfl
        rintro rfl
        refine ke_block ?_
        exact ⟨(), hd_mk trivial⟩
  · intro l30 y53 _ h54
    refine kn_then ?_
    refine kwp_seq ?_
    refine kwp_seq ?_
    refine kwp_region ?_
    refine kd (v_as) ?_
    refine kops_nil ?_
    refine kn_then ?_
    refine kwp_cutE (inv := [(0, .pointer (some r0p)), (2, .pointer (some p2_2)), (7, .pointer (some p7_7)), (8, .int .i64 v9), (9, .int .i64 v13), (10, .int .i64 (w64 (v17 - 2))), (13, .slice (some a29) j28 j28)]) (fun (z : Int × List Int) (y : Unit) => []) (fun (z : Int × List Int) (y : Unit) => [⟨.pointer (some r0p), 2, [[.slice r00a r0.b.length r00c, .int .i64 z.1]]⟩, ⟨.slice (some a29) j28 j28, 1, z.2.map encI⟩, ⟨.pointer (some p2_2), 2, [[.int .i64 0, .slice none 0 0]]⟩, ⟨.slice none 0 0, 3, ([] : List Airway).map encAirway⟩, ⟨.pointer (some p7_7), 2, [[.int .i64 v4.p, .slice q61a v4.aw.length q61c]]⟩, ⟨.slice q61a v4.aw.length q61c, 3, v4.aw.map encAirway⟩]) (fun _ _ => True) h54 ?_ ?_
    · intro t59 h57
      refine kwp_block ?_
      refine kwp_loopE (inv := [(0, .pointer (some r0p)), (2, .pointer (some p2_2)), (7, .pointer (some p7_7)), (8, .int .i64 v9), (9, .int .i64 v13), (10, .int .i64 (w64 (v17 - 2))), (13, .slice (some a29) j28 j28)]) (fun (z : Int × Int × List Int) (y : Unit) => [(15, .int .i64 z.1)]) (fun (z : Int × Int × List Int) (y : Unit) => [⟨.pointer (some r0p), 2, [[.slice r00a r0.b.length r00c, .int .i64 z.2.1]]⟩, ⟨.slice (some a29) j28 j28, 1, z.2.2.map encI⟩, ⟨.pointer (some p2_2), 2, [[.int .i64 0, .slice none 0 0]]⟩, ⟨.slice none 0 0, 3, ([] : List Airway).map encAirway⟩, ⟨.pointer (some p7_7), 2, [[.int .i64 v4.p, .slice q61a v4.aw.length q61c]]⟩, ⟨.slice q61a v4.aw.length q61c, 3, v4.aw.map encAirway⟩]) (fun _ _ => True) h57 ⟨(), hd_mk trivial⟩ ?_
      intro z65 y66 b63 _ h64
      obtain ⟨k60, p61, l62⟩ := z65
      unfold p_spec_l20Flow_L1 at h64
      refine kwp_seq ?_
      refine kwp_seq ?_
      refine kwp_region ?_
      refine kd (v_mv) ?_
      refine kd (v_fb fa_32_1) ?_
      refine kd (v_ldb Tryd.isAgg30) ?_
      refine kd (v_len Tryd.runUnderlying30) ?_
      refine kd (v_cmp) ?_
      refine kops_nil ?_
      refine kn_then ?_
      refine kwp_cond rfl (fun hc67 => ?_) (fun hc67 => ?_)
      ·
        replace h64 := e_t h64 hc67
        refine kwp_skip ?_
        refine kn_then ?_
        refine kwp_seq ?_
        refine kwp_block ?_
        refine kwp_seq ?_
        refine kwp_region ?_
        refine kd (v_ldB Tryd.isAgg32 Tryd.sizeOf32) ?_
        obtain ⟨v69, hv68, h64⟩ := e_bind h64
        refine kk (n_call Tryd.call76 (w_spec_l3Survey q61a v4.aw.length q61c hv68) ?_)
        rintro _ _ ⟨q701a, q701c, rfl, rfl⟩
        refine kd (v_mv) ?_
        obtain ⟨⟨v72, v73⟩, hv71, h64⟩ := e_bind h64
        refine kk (n_call Tryd.call97 (w_spec_LoopSteps q701a v69.legs.length q701c hv71) ?_)
        rintro _ _ ⟨q74a, q74c, rfl, rfl⟩
        refine kd (v_mv) ?_
        refine kd (v_ex) ?_
        refine kd (v_ex) ?_
        refine kd (v_as) ?_
        refine kd (v_as) ?_
        refine kops_nil ?_
        refine kn_then ?_
        refine kwp_seq ?_
        refine kwp_region ?_
        refine kd (v_mv) ?_
        obtain ⟨⟨v77, v78⟩, hv76, h64⟩ := e_bind h64
        refine kk (n_call Tryd.call58 (w_spec_l20Rd_pick r0p r00a r0.b.length r00c hv76) ?_)
        rintro _ _ ⟨rfl, rfl⟩
        refine kd (v_sub) ?_
        refine kd (v_as) ?_
        refine kops_nil ?_
        refine kn_then ?_
        refine kwp_seq ?_
        refine kwp_region ?_
        refine kd (v_as) ?_
        refine kops_nil ?_
        refine kn_then ?_
        refine kwp_cutE (inv := [(0, .pointer (some r0p)), (2, .pointer (some p2_2)), (7, .pointer (some p7_7)), (8, .int .i64 v9), (9, .int .i64 v13), (10, .int .i64 (w64 (v17 - 2))), (13, .slice (some a29) j28 j28), (15, .int .i64 k60)]) (fun (z : List Int) (y : Unit) => []) (fun (z : List Int) (y : Unit) => [⟨.slice (some a29) j28 j28, 1, z.map encI⟩, ⟨.pointer (some r0p), 2, [[.slice r00a r0.b.length r00c, .int .i64 v78]]⟩, ⟨.pointer (some p2_2), 2, [[.int .i64 0, .slice none 0 0]]⟩, ⟨.slice none 0 0, 3, ([] : List Airway).map encAirway⟩, ⟨.pointer (some p7_7), 2, [[.int .i64 v4.p, .slice q61a v4.aw.length q61c]]⟩, ⟨.slice q61a v4.aw.length q61c, 3, v4.aw.map encAirway⟩]) (fun _ _ => True) h64 ?_ ?_
        · intro t83 h81
          refine kwp_block ?_
          refine kwp_loopE (inv := [(0, .pointer (some r0p)), (2, .pointer (some p2_2)), (7, .pointer (some p7_7)), (8, .int .i64 v9), (9, .int .i64 v13), (10, .int .i64 (w64 (v17 - 2))), (13, .slice (some a29) j28 j28), (15, .int .i64 k60), (16, .slice q74a v72.length q74c), (17, .bool v73), (18, .int .i64 (w64 (v77 - 3)))]) (fun (z : Int × List Int) (y : Unit) => [(19, .int .i64 z.1)]) (fun (z : Int × List Int) (y : Unit) => [⟨.slice (some a29) j28 j28, 1, z.2.map encI⟩, ⟨.pointer (some r0p), 2, [[.slice r00a r0.b.length r00c, .int .i64 v78]]⟩, ⟨.pointer (some p2_2), 2, [[.int .i64 0, .slice none 0 0]]⟩, ⟨.slice none 0 0, 3, ([] : List Airway).map encAirway⟩, ⟨.pointer (some p7_7), 2, [[.int .i64 v4.p, .slice q61a v4.aw.length q61c]]⟩, ⟨.slice q61a v4.aw.length q61c, 3, v4.aw.map encAirway⟩, ⟨.slice q74a v72.length q74c, 2, v72.map encStep⟩]) (fun _ _ => True) h81 ⟨(), hd_mk trivial⟩ ?_
          intro z88 y89 b86 _ h87
          obtain ⟨j84, l85⟩ := z88
          unfold p_spec_l20Flow_L2 at h87
          refine kwp_seq ?_
          refine kwp_seq ?_
          refine kwp_cutE (inv := [(0, .pointer (some r0p)), (2, .pointer (some p2_2)), (7, .pointer (some p7_7)), (8, .int .i64 v9), (9, .int .i64 v13), (10, .int .i64 (w64 (v17 - 2))), (13, .slice (some a29) j28 j28), (15, .int .i64 k60), (16, .slice q74a v72.length q74c), (17, .bool v73), (18, .int .i64 (w64 (v77 - 3))), (19, .int .i64 j84)]) (fun (z : Bool) (y : Unit) => [(98, .bool z)]) (fun (z : Bool) (y : Unit) => [⟨.pointer (some r0p), 2, [[.slice r00a r0.b.length r00c, .int .i64 v78]]⟩, ⟨.pointer (some p2_2), 2, [[.int .i64 0, .slice none 0 0]]⟩, ⟨.slice none 0 0, 3, ([] : List Airway).map encAirway⟩, ⟨.pointer (some p7_7), 2, [[.int .i64 v4.p, .slice q61a v4.aw.length q61c]]⟩, ⟨.slice q61a v4.aw.length q61c, 3, v4.aw.map encAirway⟩, ⟨.slice (some a29) j28 j28, 1, l85.map encI⟩, ⟨.slice q74a v72.length q74c, 2, v72.map encStep⟩]) (fun _ _ => True) h87 ?_ ?_
          · intro t93 h91
            refine kwp_region ?_
            refine kd (v_mv) ?_
            refine kd (v_mv) ?_
            refine kd (v_len Tryd.runUnderlying108) ?_
            refine kd (v_cmp) ?_
            refine kd (v_mv) ?_
            refine kops_split 96 rfl (fun hb94 => ?_) (fun hb94 => ?_)
            ·
              replace h91 := e_t h91 hb94
              refine kgd hb94 (v_mv) ?_
              refine kd (v_pt hb94) ?_
              refine kops_nil ?_
              refine kn_then ?_
              obtain rfl := e_some h91
              exact ⟨(), hd_mk trivial⟩
            ·
              replace h91 := e_f h91 hb94
              refine kskip hb94 ?_
              refine kd (v_pf hb94) ?_
              refine kops_nil ?_
              refine kn_then ?_
              obtain rfl := e_some h91
              exact ⟨(), hd_mk trivial⟩
          · intro x90 y96 _ h97
            refine kn_then ?_
            refine kwp_cond rfl (fun hc98 => ?_) (fun hc98 => ?_)
            ·
              replace h97 := e_t h97 hc98
              refine kwp_skip ?_
              refine kn_then ?_
              refine kwp_seq ?_
              refine kwp_block ?_
              refine kwp_seq ?_
              refine kwp_region ?_
              refine kd (v_mv) ?_
              refine kd (v_as) ?_
              refine kops_nil ?_
              refine kn_then ?_
              refine kwp_seq ?_
              refine kwp_seq ?_
              refine kwp_region ?_
              refine kd (v_mv) ?_
              refine kd (v_mv) ?_
              obtain ⟨j99, ej99, nj99, h97⟩ := e_idx h97
              refine kd (v_ia ej99 nj99 Tryd.runUnderlying108 Tryd.sizeOf112) ?_
              refine kd (v_fa nj99 fa_112_1) ?_
              refine kd (v_ldf nj99 Tryd.isAgg4) ?_
              refine kops_nil ?_
              refine kn_then ?_
              refine kwp_cutE (inv := [(0, .pointer (some r0p)), (2, .pointer (some p2_2)), (7, .pointer (some p7_7)), (8, .int .i64 v9), (9, .int .i64 v13), (10, .int .i64 (w64 (v17 - 2))), (13, .slice (some a29) j28 j28), (15, .int .i64 k60), (16, .slice q74a v72.length q74c), (17, .bool v73), (18, .int .i64 (w64 (v77 - 3))), (19, .int .i64 j84)]) (fun (z : Int) (y : Unit) => [(20, .int .i64 z)]) (fun (z : Int) (y : Unit) => [⟨.pointer (some r0p), 2, [[.slice r00a r0.b.length r00c, .int .i64 v78]]⟩, ⟨.pointer (some p2_2), 2, [[.int .i64 0, .slice none 0 0]]⟩, ⟨.slice none 0 0, 3, ([] : List Airway).map encAirway⟩, ⟨.pointer (some p7_7), 2, [[.int .i64 v4.p, .slice q61a v4.aw.length q61c]]⟩, ⟨.slice q61a v4.aw.length q61c, 3, v4.aw.map encAirway⟩, ⟨.slice (some a29) j28 j28, 1, l85.map encI⟩, ⟨.slice q74a v72.length q74c, 2, v72.map encStep⟩]) (fun _ _ => True) h97 ?_ ?_
              · intro t103 h101
                refine kwp_cond rfl (fun hc104 => ?_) (fun hc104 => ?_)
                ·
                  replace h101 := e_t h101 hc104
                  refine kwp_region ?_
                  refine kd (v_mv) ?_
                  refine kd (v_neg) ?_
                  refine kd (v_as) ?_
                  refine kops_nil ?_
                  refine kn_then ?_
                  obtain rfl := e_some h101
                  exact ⟨(), hd_mk trivial⟩
                ·
                  replace h101 := e_f h101 hc104
                  refine kwp_skip ?_
                  refine kn_then ?_
                  obtain rfl := e_some h101
                  exact ⟨(), hd_mk trivial⟩
              · intro x100 y106 _ h107
                refine kn_then ?_
                obtain ⟨j108, ej108, nj108, h107⟩ := e_idx h107
                obtain ⟨j109, ej109, nj109, h107⟩ := e_idx h107
                refine kwp_tree (.quiet 0 (.quiet 1 (.quiet 2 (.quiet 3 (.quiet 4 (.quiet 5 (.quiet 6 (.quiet 7 (.quiet 8 (.quiet 9 (.quiet 10 (.quiet 11 (.quiet 12 (.quiet 13 (.quiet 14 (.quiet 15 (.quiet 16 (.one 17 .stop)))))))))))))))))) [17] [⟨.slice (some a29) j28 j28, 1, l85.map encI⟩, ⟨.slice q74a v72.length q74c, 2, v72.map encStep⟩] drawMixed (by kernel_rfl) nopan (by (repeat (first | exact Sub.refl _ | exact Sub.nil _ | refine Sub.chunk (by repeat (first | exact Pick.here | apply Pick.there | apply Pick.seg)) (by rfl) ?_ | refine Sub.seg (by repeat (first | exact PickSeg.here | exact PickSeg.all | apply PickSeg.there | apply PickSeg.seg)) ?_ | exact Sub.seg0 (by repeat (first | exact PickSeg.here | exact PickSeg.all | apply PickSeg.there | apply PickSeg.seg)) | apply Sub.assoc))) ?_
                refine kt_d rfl rfl rfl (v_mv) ?_
                refine kt_d rfl rfl rfl (v_mv) ?_
                refine kt_d rfl rfl rfl (v_mv) ?_
                refine kt_d rfl rfl rfl (v_ia ej108 nj108 Tryd.runUnderlying108 Tryd.sizeOf112) ?_
                refine kt_d rfl rfl rfl (v_fa nj108 fa_112_0) ?_
                refine kt_d rfl rfl rfl (v_ldf nj108 Tryd.isAgg3) ?_
                refine kt_d rfl rfl rfl (v_mv) ?_
                refine kt_d rfl rfl rfl (v_mv) ?_
                refine kt_d rfl rfl rfl (v_mv) ?_
                refine kt_d rfl rfl rfl (v_ia ej108 nj108 Tryd.runUnderlying108 Tryd.sizeOf112) ?_
                refine kt_d rfl rfl rfl (v_fa nj108 fa_112_0) ?_
                refine kt_d rfl rfl rfl (v_ldf nj108 Tryd.isAgg3) ?_
                refine kt_d rfl rfl rfl (v_ia ej109 nj109 Tryd.runUnderlying46 Tryd.sizeOf3) ?_
                refine kt_d rfl rfl rfl (v_ldf nj109 Tryd.isAgg3) ?_
                refine kt_d rfl rfl rfl (v_mv) ?_
                refine kt_d rfl rfl rfl (v_add) ?_
                refine kt_d rfl rfl rfl (v_ia ej109 nj109 Tryd.runUnderlying46 Tryd.sizeOf3) ?_
                refine kt_one ?_
                refine kl_k rfl rfl (s_f (w64 ((gx l85 j109) + x100)) nj109 Tryd.sizeOf3 ?_)
                refine ⟨.inr ⟨by decide, rfl⟩, ?_⟩
                refine kt_nil ?_
                refine kn_block ?_
                refine kn_then ?_
                refine kwp_region ?_
                refine kd (v_mv) ?_
                refine kd (v_add) ?_
                refine kd (v_as) ?_
                refine kops_nil ?_
                refine kn_then ?_
                obtain rfl := e_some h107
                exact ⟨_, (), rfl, hd_mk trivial⟩
            ·
              replace h97 := e_f h97 hc98
              refine kwp_exit ?_
              refine ke_then ?_
              obtain rfl := e_some h97
              refine k_out ?_ rfl
              rintro rfl
              refine ke_block ?_
              exact ⟨(), hd_mk trivial⟩
        · intro l80 y111 _ h112
          refine kn_block ?_
          refine kn_then ?_
          refine kwp_region ?_
          refine kd (v_mv) ?_
          refine kd (v_add) ?_
          refine kd (v_as) ?_
          refine kops_nil ?_
          refine kn_then ?_
          obtain rfl := e_some h112
          exact ⟨_, (), rfl, hd_mk trivial⟩
      ·
        replace h64 := e_f h64 hc67
        refine kwp_exit ?_
        refine ke_then ?_
        obtain rfl := e_some h64
        refine k_out ?_ rfl
        rintro rfl
        refine ke_block ?_
        exact ⟨(), hd_mk trivial⟩
    · intro z113 y114 _ h115
      obtain ⟨p55, l56⟩ := z113
      refine kn_then ?_
      refine kwp_seq ?_
      refine kwp_seq ?_
      refine kwp_cutE (inv := [(2, .pointer (some p2_2)), (7, .pointer (some p7_7)), (8, .int .i64 v9), (9, .int .i64 v13), (10, .int .i64 (w64 (v17 - 2))), (13, .slice (some a29) j28 j28)]) (fun (z : Bool × Int) (y : Unit) => [(132, .bool z.1)]) (fun (z : Bool × Int) (y : Unit) => [⟨.pointer (some r0p), 2, [[.slice r00a r0.b.length r00c, .int .i64 z.2]]⟩, ⟨.pointer (some p2_2), 2, [[.int .i64 0, .slice none 0 0]]⟩, ⟨.slice none 0 0, 3, ([] : List Airway).map encAirway⟩, ⟨.pointer (some p7_7), 2, [[.int .i64 v4.p, .slice q61a v4.aw.length q61c]]⟩, ⟨.slice q61a v4.aw.length q61c, 3, v4.aw.map encAirway⟩, ⟨.slice (some a29) j28 j28, 1, l56.map encI⟩]) (fun _ _ => True) h115 ?_ ?_
      · intro t120 h118
        refine kwp_region ?_
        refine kd (v_mv) ?_
        obtain ⟨⟨v122, v123⟩, hv121, h118⟩ := e_bind h118
        refine kk (n_call Tryd.call73 (w_spec_l20Rd_odd r0p r00a r0.b.length r00c hv121) ?_)
        rintro _ _ ⟨rfl, rfl⟩
        refine kd (v_mv) ?_
        refine kops_split 128 rfl (fun hb125 => ?_) (fun hb125 => ?_)
        ·
          replace h118 := e_t h118 hb125
          refine kgd hb125 (v_mv) ?_
          refine kgd hb125 (v_len Tryd.runUnderlying46) ?_
          refine kgd hb125 (v_cmp) ?_
          refine kd (v_pt hb125) ?_
          refine kops_nil ?_
          refine kn_then ?_
          obtain rfl := e_some h118
          exact ⟨(), hd_mk trivial⟩
        ·
          replace h118 := e_f h118 hb125
          refine kskip hb125 ?_
          refine kskip hb125 ?_
          refine kskip hb125 ?_
          refine kd (v_pf hb125) ?_
          refine kops_nil ?_
          refine kn_then ?_
          obtain rfl := e_some h118
          exact ⟨(), hd_mk trivial⟩
      · intro z126 y127 _ h128
        obtain ⟨x116, p117⟩ := z126
        refine kn_then ?_
        refine kwp_cutE (inv := [(2, .pointer (some p2_2)), (7, .pointer (some p7_7)), (8, .int .i64 v9), (9, .int .i64 v13), (10, .int .i64 (w64 (v17 - 2))), (13, .slice (some a29) j28 j28)]) (fun (z : List Int) (y : Unit) => []) (fun (z : List Int) (y : Unit) => [⟨.slice (some a29) j28 j28, 1, z.map encI⟩, ⟨.pointer (some p2_2), 2, [[.int .i64 0, .slice none 0 0]]⟩, ⟨.slice none 0 0, 3, ([] : List Airway).map encAirway⟩, ⟨.pointer (some p7_7), 2, [[.int .i64 v4.p, .slice q61a v4.aw.length q61c]]⟩, ⟨.slice q61a v4.aw.length q61c, 3, v4.aw.map encAirway⟩, ⟨.pointer (some r0p), 2, [[.slice r00a r0.b.length r00c, .int .i64 p117]]⟩]) (fun _ _ => True) h128 ?_ ?_
        · intro t132 h130
          refine kwp_cond rfl (fun hc133 => ?_) (fun hc133 => ?_)
          ·
            replace h130 := e_t h130 hc133
            refine kwp_region ?_
            refine kd (v_mv) ?_
            refine kd (v_mv) ?_
            obtain ⟨j134, ej134, nj134, h130⟩ := e_idx h130
            refine kd (v_ia ej134 nj134 Tryd.runUnderlying46 Tryd.sizeOf3) ?_
            refine kd (v_ldf nj134 Tryd.isAgg3) ?_
            refine kd (v_add) ?_
            refine kd (v_ia ej134 nj134 Tryd.runUnderlying46 Tryd.sizeOf3) ?_
            refine kk (s_f (w64 ((gx l56 j134) + 1)) nj134 Tryd.sizeOf3 ?_)
            refine kops_nil ?_
            refine kn_then ?_
            obtain rfl := e_some h130
            exact ⟨(), hd_mk trivial⟩
          ·
            replace h130 := e_f h130 hc133
            refine kwp_skip ?_
            refine kn_then ?_
            obtain rfl := e_some h130
            exact ⟨(), hd_mk trivial⟩
        · intro l129 y136 _ h137
          refine kn_then ?_
          refine kwp_seq ?_
          refine kwp_region ?_
          refine kd (v_ldB Tryd.isAgg32 Tryd.sizeOf32) ?_
          refine kd (v_mv) ?_
          refine kd (v_mv) ?_
          refine kd (v_mv) ?_
          refine kd (v_mv) ?_
          refine kk (s_B (e' := [.int .i64 v4.p, .slice q61a v4.aw.length q61c]) Tryd.sizeOf32 ?_)
          refine kd (v_as) ?_
          refine kd (v_as) ?_
          refine kd (v_as) ?_
          refine kd (v_as) ?_
          refine kops_nil ?_
          refine kn_then ?_
          refine k_len (c := j28) (fun hl138 => ?_)
          subst hl138
          refine kwp_ret ?_
          obtain rfl := e_some h137
          refine rc4 Tryd.isAgg32 Tryd.sizeOf32 [⟨.slice q61a v4.aw.length q61c, 3, v4.aw.map encAirway⟩, ⟨.slice (some a29) (l129.length) (l129.length), 1, l129.map encI⟩, ⟨.pointer (some r0p), 2, [[.slice r00a r0.b.length r00c, .int .i64 p117]]⟩] ?_
          exact ⟨q61a, q61c, some a29, (l129.length), rfl, rfl⟩

end Go.Proofs.YtpfijnklnljccaaDoor
