/- What the plain programs return, the functions of the program return; no condition. -/
import Derived.Test.YtnibfmofkamjoaaDoorQbx
import Derived.Test.YtnibfmofkamjoaaDoorFa
import Derived.Test.YtnibfmofkamjoaaDoorVbr
namespace Go.Proofs.YtnibfmofkamjoaaDoor
open Go
set_option linter.unusedVariables false
set_option linter.unusedSimpArgs false

set_option maxRecDepth 20000 in
set_option maxHeartbeats 2000000 in
theorem w_spec_l20Matrix (r0p : Addr) (r00a : Option Addr) (r00n : Nat) (r00c : Nat) {r0 : Rd} {n0 : Int} {r : List (List Int) × Int} (h : p_spec_l20Matrix r0 n0 = some r) :
    Triple Tryd.prog 103 [.pointer (some r0p), .int .i64 n0] [⟨.slice r00a r00n r00c, 1, r0.b.map encB⟩] [⟨.pointer (some r0p), 2, [[.slice r00a r00n r00c, .int .i64 r0.p]]⟩] (fun v ch => ∃ (w0a : Option Addr) (w0c : Nat) (w0R : List Row), v = .slice w0a r.1.length w0c ∧ nums w0R = r.1 ∧ ch = (⟨.slice w0a r.1.length w0c, 1, w0R.map encRow⟩ :: ⟨.pointer (some r0p), 2, [[.slice r00a r00n r00c, .int .i64 r.2]]⟩ :: (rowsC w0R))) := by
  refine triple_start 81 Tryd.func103 Tryd.ntmps103 rfl rfl (fun w0 => ?_)
  refine k_len (c := r00c) (fun hl1 => ?_)
  subst hl1
  unfold p_spec_l20Matrix at h
  refine kwp_seq ?_
  refine kwp_region ?_
  refine kops_nilM (fun R2 hR2 => ?_)
  refine kd (v_as) ?_
  refine kops_nil ?_
  refine kn_then ?_
  refine kwp_seq ?_
  refine kwp_region ?_
  refine kd (v_mv) ?_
  obtain ⟨⟨v4, v5⟩, hv3, h⟩ := e_bind h
  refine kk (n_call Tryd.call70 (w_spec_l20Rd_pick r0p r00a r0.b.length r00c hv3) ?_)
  rintro _ _ ⟨rfl, rfl⟩
  refine kd (v_as) ?_
  refine kops_nil ?_
  refine kn_then ?_
  refine kwp_seq ?_
  refine kwp_region ?_
  refine kd (v_mv) ?_
  obtain ⟨⟨v8, v9⟩, hv7, h⟩ := e_bind h
  refine kk (n_call Tryd.call70 (w_spec_l20Rd_pick r0p r00a r0.b.length r00c hv7) ?_)
  rintro _ _ ⟨rfl, rfl⟩
  refine kd (v_add) ?_
  refine kd (v_as) ?_
  refine kops_nil ?_
  refine kn_then ?_
  refine kwp_seq ?_
  refine kwp_region ?_
  refine kk (n_litM Tryd.runUnderlying51 Tryd.sizeOf26 Tryd.zeroValue26 (fun a11 R12 hR12 => ?_))
  refine kd (v_as) ?_
  refine kops_nil ?_
  refine kn_then ?_
  refine kwp_seq ?_
  refine kwp_seq ?_
  refine kwp_region ?_
  refine kd (v_as) ?_
  refine kops_nil ?_
  refine kn_then ?_
  refine kwp_cutE (inv := [(0, .pointer (some r0p)), (1, .int .i64 n0), (5, .int .i64 v4)]) (fun (z : List (List Int) × Int) (y : Option Addr × Nat × Nat × List Row) => [(7, .slice y.1 y.2.1 y.2.2.1)]) (fun (z : List (List Int) × Int) (y : Option Addr × Nat × Nat × List Row) => (⟨.pointer (some r0p), 2, [[.slice r00a r0.b.length r00c, .int .i64 z.2]]⟩ :: ⟨.slice y.1 y.2.1 y.2.2.1, 1, y.2.2.2.map encRow⟩ :: (rowsC y.2.2.2))) (fun (z : List (List Int) × Int) (y : Option Addr × Nat × Nat × List Row) => nums y.2.2.2 = z.1 ∧ True) h ?_ ?_
  · intro t17 h15
    refine kwp_block ?_
    refine kwp_loopE (inv := [(0, .pointer (some r0p)), (1, .int .i64 n0), (5, .int .i64 v4), (6, .int .i64 (w64 (2 + v8)))]) (fun (z : List (List Int) × Int × Int) (y : Option Addr × Nat × Nat × List Row) => [(7, .slice y.1 y.2.1 y.2.2.1), (8, .int .i64 z.2.1)]) (fun (z : List (List Int) × Int × Int) (y : Option Addr × Nat × Nat × List Row) => (⟨.pointer (some r0p), 2, [[.slice r00a r0.b.length r00c, .int .i64 z.2.2]]⟩ :: ⟨.slice y.1 y.2.1 y.2.2.1, 1, y.2.2.2.map encRow⟩ :: (rowsC y.2.2.2))) (fun (z : List (List Int) × Int × Int) (y : Option Addr × Nat × Nat × List Row) => nums y.2.2.2 = z.1 ∧ True) h15 ⟨(some a11, 0, 0, R12), hd_mk ⟨hR12, trivial⟩⟩ ?_
    intro z23 y24 b21 hp25 h22
    obtain ⟨out18, k19, p20⟩ := z23
    obtain ⟨out18a, out18n, out18c, out18R⟩ := y24
    obtain ⟨hout18R, _⟩ := hp25
    refine k_lenM (c := out18c) (m := out18) hout18R (fun hl26 => ?_)
    subst hl26
    unfold p_spec_l20Matrix_L0 at h22
    refine kwp_seq ?_
    refine kwp_seq ?_
    refine kwp_region ?_
    refine kd (v_mv) ?_
    refine kd (v_mv) ?_
    refine kd (v_cmp) ?_
    refine kops_nil ?_
    refine kn_then ?_
    refine kwp_cond rfl (fun hc27 => ?_) (fun hc27 => ?_)
    ·
      replace h22 := e_t h22 hc27
      refine kwp_skip ?_
      refine kn_then ?_
      refine kwp_seq ?_
      refine kwp_block ?_
      refine kwp_seq ?_
      refine kwp_region ?_
      refine kk (n_lit (enc := encI) [] ([] : List Int) Tryd.runUnderlying26 Tryd.sizeOf3 Tryd.zeroValue3 (fun a28 => ?_))
      refine kd (v_as) ?_
      refine kops_nil ?_
      refine kn_then ?_
      refine kwp_seq ?_
      refine kwp_seq ?_
      refine kwp_region ?_
      refine kd (v_as) ?_
      refine kops_nil ?_
      refine kn_then ?_
      refine kwp_cutE (inv := [(0, .pointer (some r0p)), (1, .int .i64 n0), (5, .int .i64 v4), (6, .int .i64 (w64 (2 + v8))), (7, .slice out18a out18.length out18c), (8, .int .i64 k19)]) (fun (z : List Int × Int) (y : Option Addr × Nat × Nat) => [(9, .slice y.1 y.2.1 y.2.2)]) (fun (z : List Int × Int) (y : Option Addr × Nat × Nat) => (⟨.pointer (some r0p), 2, [[.slice r00a r0.b.length r00c, .int .i64 z.2]]⟩ :: ⟨.slice y.1 y.2.1 y.2.2, 1, z.1.map encI⟩ :: ⟨.slice out18a (out18.length) out18c, 1, out18R.map encRow⟩ :: (rowsC out18R))) (fun _ _ => True) h22 ?_ ?_
      · intro t33 h31
        refine kwp_block ?_
        refine kwp_loopE (inv := [(0, .pointer (some r0p)), (1, .int .i64 n0), (5, .int .i64 v4), (6, .int .i64 (w64 (2 + v8))), (7, .slice out18a out18.length out18c), (8, .int .i64 k19)]) (fun (z : List Int × Int × Int) (y : Option Addr × Nat × Nat) => [(9, .slice y.1 y.2.1 y.2.2), (10, .int .i64 z.2.1)]) (fun (z : List Int × Int × Int) (y : Option Addr × Nat × Nat) => (⟨.pointer (some r0p), 2, [[.slice r00a r0.b.length r00c, .int .i64 z.2.2]]⟩ :: ⟨.slice y.1 y.2.1 y.2.2, 1, z.1.map encI⟩ :: ⟨.slice out18a (out18.length) out18c, 1, out18R.map encRow⟩ :: (rowsC out18R))) (fun _ _ => True) h31 ⟨(some a28, 0, 0), hd_mk trivial⟩ ?_
        intro z39 y40 b37 _ h38
        obtain ⟨row34, j35, p36⟩ := z39
        obtain ⟨row34a, row34n, row34c⟩ := y40
        refine k_len (c := row34c) (fun hl41 => ?_)
        subst hl41
        unfold p_spec_l20Matrix_L1 at h38
        refine kwp_seq ?_
        refine kwp_seq ?_
        refine kwp_region ?_
        refine kd (v_mv) ?_
        refine kd (v_mv) ?_
        refine kd (v_cmp) ?_
        refine kops_nil ?_
        refine kn_then ?_
        refine kwp_cond rfl (fun hc42 => ?_) (fun hc42 => ?_)
        ·
          replace h38 := e_t h38 hc42
          refine kwp_skip ?_
          refine kn_then ?_
          refine kwp_seq ?_
          refine kwp_block ?_
          refine kwp_region ?_
          refine kd (v_mv) ?_
          refine kd (v_mv) ?_
          refine kd (v_mv) ?_
          refine kd (v_mul) ?_
          refine kd (v_add) ?_
          obtain ⟨⟨v44, v45⟩, hv43, h38⟩ := e_bind h38
          refine kk (n_call Tryd.call70 (w_spec_l20Rd_pick r0p r00a r0.b.length r00c hv43) ?_)
          rintro _ _ ⟨rfl, rfl⟩
          refine kd (v_mv) ?_
          refine kd (v_sub) ?_
          refine kk (n_lit (enc := encI) [_] ([w64 (v44 - (w64 (2 + v8)))] : List Int) Tryd.runUnderlying26 Tryd.sizeOf3 Tryd.zeroValue3 (fun a47 => ?_))
          obtain ⟨hz48, h38⟩ := e_need h38
          refine kk (n_app (enc := encI) ok_encI hz48 Tryd.underlying26 Tryd.type3 (by decide) (fun a49 c50 => ?_))
          refine kd (v_as) ?_
          refine kops_nil ?_
          refine kn_block ?_
          refine kn_then ?_
          refine kwp_region ?_
          refine kd (v_mv) ?_
          refine kd (v_add) ?_
          refine kd (v_as) ?_
          refine kops_nil ?_
          refine kn_then ?_
          obtain rfl := e_some h38
          exact ⟨_, (a49, (row34 ++ ([w64 (v44 - (w64 (2 + v8)))] : List Int)).length, c50), rfl, hd_mk trivial⟩
        ·
          replace h38 := e_f h38 hc42
          refine kwp_exit ?_
          refine ke_then ?_
          obtain rfl := e_some h38
          refine k_out ?_ rfl
          rintro rfl
          refine ke_block ?_
          exact ⟨(row34a, row34.length, row34c), hd_mk trivial⟩
      · intro z51 y52 _ h53
        obtain ⟨row29, p30⟩ := z51
        obtain ⟨row29a, row29n, row29c⟩ := y52
        refine k_len (c := row29c) (fun hl54 => ?_)
        subst hl54
        refine kwp_region ?_
        refine kd (v_mv) ?_
        refine kd (v_mv) ?_
        refine kk (n_lit (enc := fun v => v) [_] [[.slice row29a row29.length row29c]] Tryd.runUnderlying51 Tryd.sizeOf26 Tryd.zeroValue26 (fun a55 => ?_))
        obtain ⟨hz56, h53⟩ := e_need h53
        refine kk (n_appM (l := row29) hout18R hz56 Tryd.underlying51 Tryd.type26 (by decide) (fun a57 c58 R59 hR59 => ?_))
        refine kd (v_as) ?_
        refine kops_nil ?_
        refine kn_block ?_
        refine kn_then ?_
        refine kwp_region ?_
        refine kd (v_mv) ?_
        refine kd (v_add) ?_
        refine kd (v_as) ?_
        refine kops_nil ?_
        refine kn_then ?_
        obtain rfl := e_some h53
        exact ⟨_, (a57, (out18 ++ [row29]).length, c58, R59), rfl, hd_mk ⟨hR59, trivial⟩⟩
    ·
      replace h22 := e_f h22 hc27
      refine kwp_exit ?_
      refine ke_then ?_
      obtain rfl := e_some h22
      refine k_out ?_ rfl
      rintro rfl
      refine ke_block ?_
      exact ⟨(out18a, out18.length, out18c, out18R), hd_mk ⟨hout18R, trivial⟩⟩
  · intro z60 y61 hp63 h62
    obtain ⟨out13, p14⟩ := z60
    obtain ⟨out13a, out13n, out13c, out13R⟩ := y61
    obtain ⟨hout13R, _⟩ := hp63
    refine k_lenM (c := out13c) (m := out13) hout13R (fun hl64 => ?_)
    subst hl64
    refine kwp_seq ?_
    refine kwp_seq ?_
    refine kwp_cutE (inv := [(0, .pointer (some r0p)), (1, .int .i64 n0), (5, .int .i64 v4), (7, .slice out13a out13.length out13c)]) (fun (z : Bool × Int) (y : Unit) => [(48, .bool z.1)]) (fun (z : Bool × Int) (y : Unit) => (⟨.pointer (some r0p), 2, [[.slice r00a r0.b.length r00c, .int .i64 z.2]]⟩ :: ⟨.slice out13a (out13.length) out13c, 1, out13R.map encRow⟩ :: (rowsC out13R))) (fun _ _ => True) h62 ?_ ?_
    · intro t69 h67
      refine kwp_region ?_
      refine kd (v_mv) ?_
      refine kd (v_cmp) ?_
      refine kd (v_mv) ?_
      refine kops_split 44 rfl (fun hb70 => ?_) (fun hb70 => ?_)
      ·
        replace h67 := e_t h67 hb70
        refine kgd hb70 (v_mv) ?_
        obtain ⟨⟨v72, v73⟩, hv71, h67⟩ := e_bind h67
        refine kgk hb70 (n_call Tryd.call70 (w_spec_l20Rd_pick r0p r00a r0.b.length r00c hv71) ?_)
        rintro _ _ ⟨rfl, rfl⟩
        refine kgd hb70 (v_cmp) ?_
        refine kd (v_pt hb70) ?_
        refine kops_nil ?_
        refine kn_then ?_
        obtain rfl := e_some h67
        exact ⟨(), hd_mk trivial⟩
      ·
        replace h67 := e_f h67 hb70
        refine kskip hb70 ?_
        refine kskip hb70 ?_
        refine kskip hb70 ?_
        refine kd (v_pf hb70) ?_
        refine kops_nil ?_
        refine kn_then ?_
        obtain rfl := e_some h67
        exact ⟨(), hd_mk trivial⟩
    · intro z75 y76 _ h77
      obtain ⟨x65, p66⟩ := z75
      refine kn_then ?_
      refine kwp_cutE (inv := [(0, .pointer (some r0p)), (1, .int .i64 n0), (5, .int .i64 v4), (7, .slice out13a out13.length out13c)]) (fun (z : List (List Int)) (y : List Row) => []) (fun (z : List (List Int)) (y : List Row) => (⟨.slice out13a (out13.length) out13c, 1, y.map encRow⟩ :: ⟨.pointer (some r0p), 2, [[.slice r00a r0.b.length r00c, .int .i64 p66]]⟩ :: (rowsC y))) (fun (z : List (List Int)) (y : List Row) => nums y = z ∧ True) h77 ?_ ?_
      · intro t81 h79
        refine kwp_cond rfl (fun hc82 => ?_) (fun hc82 => ?_)
        ·
          replace h79 := e_t h79 hc82
          refine kwp_region ?_
          refine kd (v_mv) ?_
          refine kk (n_lit (enc := encI) [] ([] : List Int) Tryd.runUnderlying26 Tryd.sizeOf3 Tryd.zeroValue3 (fun a83 => ?_))
          refine kd (v_mv) ?_
          obtain ⟨j84, ej84, nj84, h79⟩ := e_idx h79
          refine kd (v_ia ej84 nj84 Tryd.runUnderlying51 Tryd.sizeOf26) ?_
          refine kd (v_ldr nj84 hout13R Tryd.isAgg26) ?_
          obtain ⟨hz85, h79⟩ := e_need h79
          refine kk (n_app (enc := encI) ok_encI hz85 Tryd.underlying26 Tryd.type3 (by decide) (fun a86 c87 => ?_) (hm := by repeat (first | exact mr hout13R (by first | exact nj84 | (simpa using nj84) | omega | (simp only [List.length_set]; omega)) | exact mr0 hout13R (by first | exact nj84 | (simpa using nj84) | omega | (simp only [List.length_set]; omega)) | apply mt | apply mas | apply ms)))
          obtain ⟨j88, ej88, nj88, h79⟩ := e_idx h79
          refine kd (v_ia ej88 nj88 Tryd.runUnderlying51 Tryd.sizeOf26) ?_
          refine kk (s_setrow (l := (([] : List Int) ++ (gx out13 j84))) nj88 hout13R Tryd.sizeOf26 (fun R89 hR89 => ?_))
          refine kops_nil ?_
          refine kn_then ?_
          obtain rfl := e_some h79
          exact ⟨R89, hd_mk ⟨hR89, trivial⟩⟩
        ·
          replace h79 := e_f h79 hc82
          refine kwp_skip ?_
          refine kn_then ?_
          obtain rfl := e_some h79
          exact ⟨out13R, hd_mk ⟨hout13R, trivial⟩⟩
      · intro m78 m78R hp93 h92
        obtain ⟨hm78R, _⟩ := hp93
        refine k_lenM (m := m78) hm78R (fun hl94 => ?_)
        refine kwp_seq ?_
        refine kwp_seq ?_
        refine kwp_region ?_
        refine kd (v_mv) ?_
        refine kd (v_mv) ?_
        obtain ⟨⟨v96, v97⟩, hv95, h92⟩ := e_bind h92
        refine kk (n_call Tryd.call104 (w_spec_l20Rd_odd r0p r00a r0.b.length r00c hv95) ?_)
        rintro _ _ ⟨rfl, rfl⟩
        refine kops_nil ?_
        refine kn_then ?_
        refine kwp_cond rfl (fun hc99 => ?_) (fun hc99 => ?_)
        ·
          replace h92 := e_t h92 hc99
          refine kwp_seq ?_
          refine kwp_seq ?_
          refine kwp_cutE (inv := [(0, .pointer (some r0p)), (7, .slice out13a out13.length out13c)]) (fun (z : Bool × Int) (y : Unit) => [(65, .bool z.1)]) (fun (z : Bool × Int) (y : Unit) => (⟨.pointer (some r0p), 2, [[.slice r00a r0.b.length r00c, .int .i64 z.2]]⟩ :: ⟨.slice out13a (out13.length) out13c, 1, m78R.map encRow⟩ :: (rowsC m78R))) (fun _ _ => True) h92 ?_ ?_
          · intro t104 h102
            refine kwp_region ?_
            refine kd (v_mv) ?_
            refine kd (v_cmp) ?_
            refine kd (v_mv) ?_
            refine kops_split 61 rfl (fun hb105 => ?_) (fun hb105 => ?_)
            ·
              replace h102 := e_t h102 hb105
              refine kgd hb105 (v_mv) ?_
              obtain ⟨⟨v107, v108⟩, hv106, h102⟩ := e_bind h102
              refine kgk hb105 (n_call Tryd.call70 (w_spec_l20Rd_pick r0p r00a r0.b.length r00c hv106) ?_)
              rintro _ _ ⟨rfl, rfl⟩
              refine kgd hb105 (v_cmp) ?_
              refine kd (v_pt hb105) ?_
              refine kops_nil ?_
              refine kn_then ?_
              obtain rfl := e_some h102
              exact ⟨(), hd_mk trivial⟩
            ·
              replace h102 := e_f h102 hb105
              refine kskip hb105 ?_
              refine kskip hb105 ?_
              refine kskip hb105 ?_
              refine kd (v_pf hb105) ?_
              refine kops_nil ?_
              refine kn_then ?_
              obtain rfl := e_some h102
              exact ⟨(), hd_mk trivial⟩
          · intro z110 y111 _ h112
            obtain ⟨x100, p101⟩ := z110
            refine k_lenM (m := m78) hm78R (fun hl113 => ?_)
            refine kwp_cond rfl (fun hc114 => ?_) (fun hc114 => ?_)
            ·
              replace h112 := e_t h112 hc114
              refine kwp_seq ?_
              obtain ⟨j115, ej115, nj115, h112⟩ := e_idx h112
              obtain ⟨⟨v118, v119⟩, hv117, h112⟩ := e_bind h112
              obtain ⟨j121, ej121, nj121, h112⟩ := e_idx h112
              obtain ⟨j122, ej122, nj122, h112⟩ := e_idx h112
              refine kwp_cutS (inv := [(7, .slice out13a out13.length out13c)]) (fun (y : List Row) => []) (fun (y : List Row) => (⟨.slice out13a (out13.length) out13c, 1, y.map encRow⟩ :: ⟨.pointer (some r0p), 2, [[.slice r00a r0.b.length r00c, .int .i64 v119]]⟩ :: (rowsC y))) (fun (y : List Row) => nums y = (m78.set j115 ((gx m78 j115).set j122 (gx ([(-1000), 1000] : List Int) j121))) ∧ True) ?_ ?_
              ·
                refine kwp_tree (.quiet 0 (.quiet 1 (.quiet 2 (.quiet 4 (.two 3 (.one 5 (.one 6 (.one 7 (.quiet 8 (.one 9 .stop))))) 5 (.one 3 (.one 6 (.one 7 (.quiet 8 (.one 9 .stop)))))))))) [9] (⟨.slice out13a (out13.length) out13c, 1, m78R.map encRow⟩ :: (rowsC m78R)) drawMixed (by kernel_rfl) nopan (by (repeat (first | exact Sub.refl _ | exact Sub.nil _ | refine Sub.chunk (by repeat (first | exact Pick.here | apply Pick.there | apply Pick.seg)) (by rfl) ?_ | refine Sub.seg (by repeat (first | exact PickSeg.here | exact PickSeg.all | apply PickSeg.there | apply PickSeg.seg)) ?_ | exact Sub.seg0 (by repeat (first | exact PickSeg.here | exact PickSeg.all | apply PickSeg.there | apply PickSeg.seg)) | apply Sub.assoc))) ?_
                refine kt_d rfl rfl rfl (v_mv) ?_
                refine kt_d rfl rfl rfl (v_ia ej115 nj115 Tryd.runUnderlying51 Tryd.sizeOf26) ?_
                refine kt_d rfl rfl rfl (v_ldr nj115 hm78R Tryd.isAgg26) ?_
                refine kt_d rfl rfl rfl (v_mv) ?_
                refine kt_two ?_ ?_
                ·
                  refine kl_k rfl rfl (n_lit (enc := encI) [_, _] ([(-1000), 1000] : List Int) Tryd.runUnderlying26 Tryd.sizeOf3 Tryd.zeroValue3 (fun a116 => ?_))
                  refine ⟨.inl (by (repeat (first | exact Sub.refl _ | exact Sub.nil _ | refine Sub.chunk (by repeat (first | exact Pick.here | apply Pick.there | apply Pick.seg)) (by rfl) ?_ | refine Sub.seg (by repeat (first | exact PickSeg.here | exact PickSeg.all | apply PickSeg.there | apply PickSeg.seg)) ?_ | exact Sub.seg0 (by repeat (first | exact PickSeg.here | exact PickSeg.all | apply PickSeg.there | apply PickSeg.seg)) | apply Sub.assoc))), ?_⟩
                  refine kt_one ?_
                  refine kl_k rfl rfl (n_call Tryd.call70 (w_spec_l20Rd_pick r0p r00a r0.b.length r00c hv117) ?_)
                  rintro _ _ ⟨rfl, rfl⟩
                  refine ⟨.inl (by (repeat (first | exact Sub.refl _ | exact Sub.nil _ | refine Sub.chunk (by repeat (first | exact Pick.here | apply Pick.there | apply Pick.seg)) (by rfl) ?_ | refine Sub.seg (by repeat (first | exact PickSeg.here | exact PickSeg.all | apply PickSeg.there | apply PickSeg.seg)) ?_ | exact Sub.seg0 (by repeat (first | exact PickSeg.here | exact PickSeg.all | apply PickSeg.there | apply PickSeg.seg)) | apply Sub.assoc))), ?_⟩
                  refine kt_dk rfl rfl rfl (by (repeat (first | exact Sub.refl _ | exact Sub.nil _ | refine Sub.chunk (by repeat (first | exact Pick.here | apply Pick.there | apply Pick.seg)) (by rfl) ?_ | refine Sub.seg (by repeat (first | exact PickSeg.here | exact PickSeg.all | apply PickSeg.there | apply PickSeg.seg)) ?_ | exact Sub.seg0 (by repeat (first | exact PickSeg.here | exact PickSeg.all | apply PickSeg.there | apply PickSeg.seg)) | apply Sub.assoc))) (v_ia ej121 nj121 Tryd.runUnderlying26 Tryd.sizeOf3) ?_
                  refine kt_dk rfl rfl rfl (by (repeat (first | exact Sub.refl _ | exact Sub.nil _ | refine Sub.chunk (by repeat (first | exact Pick.here | apply Pick.there | apply Pick.seg)) (by rfl) ?_ | refine Sub.seg (by repeat (first | exact PickSeg.here | exact PickSeg.all | apply PickSeg.there | apply PickSeg.seg)) ?_ | exact Sub.seg0 (by repeat (first | exact PickSeg.here | exact PickSeg.all | apply PickSeg.there | apply PickSeg.seg)) | apply Sub.assoc))) (v_ldf nj121 Tryd.isAgg3) ?_
                  refine kt_d rfl rfl rfl (v_ia ej122 nj122 Tryd.runUnderlying26 Tryd.sizeOf3 (hm := by repeat (first | exact mr hm78R (by first | exact nj115 | (simpa using nj115) | omega | (simp only [List.length_set]; omega)) | exact mr0 hm78R (by first | exact nj115 | (simpa using nj115) | omega | (simp only [List.length_set]; omega)) | apply mt | apply mas | apply ms))) ?_
                  refine kt_one ?_
                  refine kl_k rfl rfl (s_row (by first | exact nj115 | (simpa using nj115) | omega | (simp only [List.length_set]; omega)) nj122 hm78R Tryd.sizeOf3 (fun R123 hR123 => ?_))
                  refine ⟨.inr ⟨by decide, rfl⟩, ?_⟩
                  refine kt_nil ?_
                  refine kn_then ?_
                  exact ⟨R123, hd_mk ⟨hR123, trivial⟩⟩
                ·
                  refine kl_k rfl rfl (n_call Tryd.call70 (w_spec_l20Rd_pick r0p r00a r0.b.length r00c hv117) ?_)
                  rintro _ _ ⟨rfl, rfl⟩
                  refine ⟨.inl (by (repeat (first | exact Sub.refl _ | exact Sub.nil _ | refine Sub.chunk (by repeat (first | exact Pick.here | apply Pick.there | apply Pick.seg)) (by rfl) ?_ | refine Sub.seg (by repeat (first | exact PickSeg.here | exact PickSeg.all | apply PickSeg.there | apply PickSeg.seg)) ?_ | exact Sub.seg0 (by repeat (first | exact PickSeg.here | exact PickSeg.all | apply PickSeg.there | apply PickSeg.seg)) | apply Sub.assoc))), ?_⟩
                  refine kt_one ?_
                  refine kl_k rfl rfl (n_lit (enc := encI) [_, _] ([(-1000), 1000] : List Int) Tryd.runUnderlying26 Tryd.sizeOf3 Tryd.zeroValue3 (fun a116 => ?_))
                  refine ⟨.inl (by (repeat (first | exact Sub.refl _ | exact Sub.nil _ | refine Sub.chunk (by repeat (first | exact Pick.here | apply Pick.there | apply Pick.seg)) (by rfl) ?_ | refine Sub.seg (by repeat (first | exact PickSeg.here | exact PickSeg.all | apply PickSeg.there | apply PickSeg.seg)) ?_ | exact Sub.seg0 (by repeat (first | exact PickSeg.here | exact PickSeg.all | apply PickSeg.there | apply PickSeg.seg)) | apply Sub.assoc))), ?_⟩
                  refine kt_dk rfl rfl rfl (by (repeat (first | exact Sub.refl _ | exact Sub.nil _ | refine Sub.chunk (by repeat (first | exact Pick.here | apply Pick.there | apply Pick.seg)) (by rfl) ?_ | refine Sub.seg (by repeat (first | exact PickSeg.here | exact PickSeg.all | apply PickSeg.there | apply PickSeg.seg)) ?_ | exact Sub.seg0 (by repeat (first | exact PickSeg.here | exact PickSeg.all | apply PickSeg.there | apply PickSeg.seg)) | apply Sub.assoc))) (v_ia ej121 nj121 Tryd.runUnderlying26 Tryd.sizeOf3) ?_
                  refine kt_dk rfl rfl rfl (by (repeat (first | exact Sub.refl _ | exact Sub.nil _ | refine Sub.chunk (by repeat (first | exact Pick.here | apply Pick.there | apply Pick.seg)) (by rfl) ?_ | refine Sub.seg (by repeat (first | exact PickSeg.here | exact PickSeg.all | apply PickSeg.there | apply PickSeg.seg)) ?_ | exact Sub.seg0 (by repeat (first | exact PickSeg.here | exact PickSeg.all | apply PickSeg.there | apply PickSeg.seg)) | apply Sub.assoc))) (v_ldf nj121 Tryd.isAgg3) ?_
                  refine kt_d rfl rfl rfl (v_ia ej122 nj122 Tryd.runUnderlying26 Tryd.sizeOf3 (hm := by repeat (first | exact mr hm78R (by first | exact nj115 | (simpa using nj115) | omega | (simp only [List.length_set]; omega)) | exact mr0 hm78R (by first | exact nj115 | (simpa using nj115) | omega | (simp only [List.length_set]; omega)) | apply mt | apply mas | apply ms))) ?_
                  refine kt_one ?_
                  refine kl_k rfl rfl (s_row (by first | exact nj115 | (simpa using nj115) | omega | (simp only [List.length_set]; omega)) nj122 hm78R Tryd.sizeOf3 (fun R123 hR123 => ?_))
                  refine ⟨.inr ⟨by decide, rfl⟩, ?_⟩
                  refine kt_nil ?_
                  refine kn_then ?_
                  exact ⟨R123, hd_mk ⟨hR123, trivial⟩⟩
              · intro R123 hp125
                obtain ⟨hR123, _⟩ := hp125
                refine kn_then ?_
                refine kwp_seq ?_
                refine kwp_region ?_
                refine kd (v_mv) ?_
                refine kd (v_as) ?_
                refine kops_nil ?_
                refine kn_then ?_
                refine k_lenM (c := out13c) hR123 (fun hl126 => ?_)
                refine kwp_ret ?_
                refine kr_then ?_
                refine kr_then ?_
                obtain rfl := e_some h112
                refine r1 (⟨.slice out13a (out13.length) out13c, 1, R123.map encRow⟩ :: ⟨.pointer (some r0p), 2, [[.slice r00a r0.b.length r00c, .int .i64 v119]]⟩ :: (rowsC R123)) ?_
                exact ⟨out13a, out13c, R123, by first | rfl | (rw [← hl126] <;> rfl) | ((try dsimp only); rw [← hl126] <;> rfl) | (simp; done), hR123, by first | rfl | (rw [← hl126] <;> rfl) | ((try dsimp only); rw [← hl126] <;> rfl) | (simp; done)⟩
            ·
              replace h112 := e_f h112 hc114
              refine kwp_skip ?_
              refine kn_then ?_
              refine kwp_seq ?_
              refine kwp_region ?_
              refine kd (v_mv) ?_
              refine kk (n_lit (enc := encI) [_] ([1] : List Int) Tryd.runUnderlying26 Tryd.sizeOf3 Tryd.zeroValue3 (fun a127 => ?_))
              refine kk (n_lit (enc := fun v => v) [_] [[.slice (some a127) 1 1]] Tryd.runUnderlying51 Tryd.sizeOf26 Tryd.zeroValue26 (fun a128 => ?_))
              obtain ⟨hz129, h112⟩ := e_need h112
              refine kk (n_appM (l := ([1] : List Int)) hm78R hz129 Tryd.underlying51 Tryd.type26 (by decide) (fun a130 c131 R132 hR132 => ?_))
              refine kd (v_as) ?_
              refine kops_nil ?_
              refine kn_then ?_
              refine kwp_ret ?_
              refine kr_then ?_
              obtain rfl := e_some h112
              refine r1 (⟨.slice a130 ((m78 ++ [([1] : List Int)]).length) c131, 1, R132.map encRow⟩ :: ⟨.pointer (some r0p), 2, [[.slice r00a r0.b.length r00c, .int .i64 p101]]⟩ :: (rowsC R132)) ?_
              exact ⟨a130, c131, R132, rfl, hR132, rfl⟩
        ·
          replace h92 := e_f h92 hc99
          refine kwp_skip ?_
          refine kn_then ?_
          refine kwp_seq ?_
          refine kwp_region ?_
          refine kd (v_mv) ?_
          refine kd (v_as) ?_
          refine kops_nil ?_
          refine kn_then ?_
          refine k_lenM (c := out13c) hm78R (fun hl133 => ?_)
          refine kwp_ret ?_
          obtain rfl := e_some h92
          refine r1 (⟨.slice out13a (out13.length) out13c, 1, m78R.map encRow⟩ :: ⟨.pointer (some r0p), 2, [[.slice r00a r0.b.length r00c, .int .i64 v97]]⟩ :: (rowsC m78R)) ?_
          exact ⟨out13a, out13c, m78R, by first | rfl | (rw [← hl133] <;> rfl) | ((try dsimp only); rw [← hl133] <;> rfl) | (simp; done), hm78R, by first | rfl | (rw [← hl133] <;> rfl) | ((try dsimp only); rw [← hl133] <;> rfl) | (simp; done)⟩

end Go.Proofs.YtnibfmofkamjoaaDoor
