/- What the plain programs return, the functions of the program return; no condition. -/
import Derived.Test.YtnibfmofkamjoaaDoorZQ
import Derived.Test.YtnibfmofkamjoaaDoorZFa
import Derived.Test.YtnibfmofkamjoaaDoorZVbp
import Derived.Test.YtnibfmofkamjoaaDoorZVbd
namespace Go.Proofs.YtnibfmofkamjoaaDoor
open Go
set_option linter.unusedVariables false
set_option linter.unusedSimpArgs false

set_option maxRecDepth 20000 in
set_option maxHeartbeats 2000000 in
theorem w_spec_Links (s01a : Option Addr) (s01n : Nat) (s01c : Nat) {s0 : Survey} {r : List (List Int)} (h : p_spec_Links s0 = some r) :
    Triple Tryd.prog 38 [.agg #[.int .i64 s0.st, .slice s01a s01n s01c]] [⟨.slice s01a s01n s01c, 5, s0.legs.map encLeg⟩] [] (fun v ch => ∃ (w0a : Option Addr) (w0c : Nat) (w0R : List Row), v = .slice w0a r.length w0c ∧ nums w0R = r ∧ ch = (⟨.slice w0a r.length w0c, 1, w0R.map encRow⟩ :: (rowsC w0R))) := by
  refine triple_start 75 Tryd.func38 Tryd.ntmps38 rfl rfl (fun w0 => ?_)
  refine k_len (c := s01c) (fun hl1 => ?_)
  subst hl1
  unfold p_spec_Links at h
  refine kwp_seq ?_
  refine kwp_region ?_
  refine kk (n_box (e := [.int .i64 s0.st, .slice s01a s0.legs.length s01c]) 2 (fun p1_2 => ?_))
  refine kops_nilM (fun R3 hR3 => ?_)
  refine kd (v_as) ?_
  refine kops_nil ?_
  refine kn_then ?_
  refine kwp_seq ?_
  refine kwp_region ?_
  refine kk (n_litM Tryd.runUnderlying51 Tryd.sizeOf26 Tryd.zeroValue26 (fun a4 R5 hR5 => ?_))
  refine kd (v_as) ?_
  refine kops_nil ?_
  refine kn_then ?_
  refine kwp_seq ?_
  refine kwp_seq ?_
  refine kwp_region ?_
  refine kd (v_as) ?_
  refine kops_nil ?_
  refine kn_then ?_
  refine kwp_cutE (inv := []) (fun (z : List (List Int)) (y : Option Addr × Nat × Nat × List Row) => [(3, .slice y.1 y.2.1 y.2.2.1)]) (fun (z : List (List Int)) (y : Option Addr × Nat × Nat × List Row) => (⟨.slice y.1 y.2.1 y.2.2.1, 1, y.2.2.2.map encRow⟩ :: (rowsC y.2.2.2))) (fun (z : List (List Int)) (y : Option Addr × Nat × Nat × List Row) => nums y.2.2.2 = z ∧ True) h ?_ ?_
  · intro t9 h7
    refine kwp_block ?_
    refine kwp_loopE (inv := [(1, .pointer (some p1_2))]) (fun (z : List (List Int) × Int) (y : Option Addr × Nat × Nat × List Row) => [(3, .slice y.1 y.2.1 y.2.2.1), (4, .int .i64 z.2)]) (fun (z : List (List Int) × Int) (y : Option Addr × Nat × Nat × List Row) => (⟨.slice y.1 y.2.1 y.2.2.1, 1, y.2.2.2.map encRow⟩ :: ⟨.pointer (some p1_2), 2, [[.int .i64 s0.st, .slice s01a s0.legs.length s01c]]⟩ :: (rowsC y.2.2.2))) (fun (z : List (List Int) × Int) (y : Option Addr × Nat × Nat × List Row) => nums y.2.2.2 = z.1 ∧ True) h7 ⟨(some a4, 0, 0, R5), hd_mk ⟨hR5, trivial⟩⟩ ?_
    intro z14 y15 b12 hp16 h13
    obtain ⟨out10, a11⟩ := z14
    obtain ⟨out10a, out10n, out10c, out10R⟩ := y15
    obtain ⟨hout10R, _⟩ := hp16
    refine k_lenM (c := out10c) (m := out10) hout10R (fun hl17 => ?_)
    subst hl17
    unfold p_spec_Links_L0 at h13
    refine kwp_seq ?_
    refine kwp_seq ?_
    refine kwp_cutE (inv := [(1, .pointer (some p1_2)), (3, .slice out10a out10.length out10c), (4, .int .i64 a11)]) (fun (z : Bool) (y : Unit) => [(16, .bool z)]) (fun (z : Bool) (y : Unit) => (⟨.pointer (some p1_2), 2, [[.int .i64 s0.st, .slice s01a s0.legs.length s01c]]⟩ :: ⟨.slice out10a (out10.length) out10c, 1, out10R.map encRow⟩ :: (rowsC out10R))) (fun _ _ => True) h13 ?_ ?_
    · intro t21 h19
      refine kwp_region ?_
      refine kd (v_mv) ?_
      refine kd (v_fb fa_25_0) ?_
      refine kd (v_ldb Tryd.isAgg3) ?_
      refine kd (v_cmp) ?_
      refine kd (v_mv) ?_
      refine kops_split 13 rfl (fun hb22 => ?_) (fun hb22 => ?_)
      ·
        replace h19 := e_t h19 hb22
        refine kgd hb22 (v_ldB Tryd.isAgg25 Tryd.sizeOf25) ?_
        obtain ⟨v24, hv23, h19⟩ := e_bind h19
        refine kgk hb22 (n_call Tryd.call39 (w_spec_SurveyValid s01a s0.legs.length s01c hv23) ?_)
        rintro _ _ ⟨rfl, rfl⟩
        refine kd (v_pt hb22) ?_
        refine kops_nil ?_
        refine kn_then ?_
        obtain rfl := e_some h19
        exact ⟨(), hd_mk trivial⟩
      ·
        replace h19 := e_f h19 hb22
        refine kskip hb22 ?_
        refine kskip hb22 ?_
        refine kd (v_pf hb22) ?_
        refine kops_nil ?_
        refine kn_then ?_
        obtain rfl := e_some h19
        exact ⟨(), hd_mk trivial⟩
    · intro x18 y27 _ h28
      refine kn_then ?_
      refine kwp_cond rfl (fun hc29 => ?_) (fun hc29 => ?_)
      ·
        replace h28 := e_t h28 hc29
        refine kwp_skip ?_
        refine kn_then ?_
        refine kwp_seq ?_
        refine kwp_block ?_
        refine kwp_seq ?_
        refine kwp_region ?_
        refine kd (v_fb fa_25_0) ?_
        refine kd (v_ldb Tryd.isAgg3) ?_
        refine kd (v_sub) ?_
        obtain ⟨j30, ej30, nj30, h28⟩ := e_sized h28
        refine kk (n_make (enc := encI) 0 ej30 nj30 Tryd.underlying26 Tryd.type3 (by decide) (fun a31 => ?_))
        refine kd (v_as) ?_
        refine kops_nil ?_
        refine kn_then ?_
        refine kwp_seq ?_
        refine kwp_seq ?_
        refine kwp_region ?_
        refine kd (v_as) ?_
        refine kops_nil ?_
        refine kn_then ?_
        refine kwp_cutE (inv := [(1, .pointer (some p1_2)), (3, .slice out10a out10.length out10c), (4, .int .i64 a11), (5, .slice (some a31) j30 j30)]) (fun (z : List Int) (y : Unit) => []) (fun (z : List Int) (y : Unit) => (⟨.slice (some a31) j30 j30, 1, z.map encI⟩ :: ⟨.pointer (some p1_2), 2, [[.int .i64 s0.st, .slice s01a s0.legs.length s01c]]⟩ :: ⟨.slice out10a (out10.length) out10c, 1, out10R.map encRow⟩ :: (rowsC out10R))) (fun _ _ => True) h28 ?_ ?_
        · intro t35 h33
          refine kwp_block ?_
          refine kwp_loopE (inv := [(1, .pointer (some p1_2)), (3, .slice out10a out10.length out10c), (4, .int .i64 a11), (5, .slice (some a31) j30 j30)]) (fun (z : Int × List Int) (y : Unit) => [(6, .int .i64 z.1)]) (fun (z : Int × List Int) (y : Unit) => (⟨.slice (some a31) j30 j30, 1, z.2.map encI⟩ :: ⟨.pointer (some p1_2), 2, [[.int .i64 s0.st, .slice s01a s0.legs.length s01c]]⟩ :: ⟨.slice out10a (out10.length) out10c, 1, out10R.map encRow⟩ :: (rowsC out10R))) (fun _ _ => True) h33 ⟨(), hd_mk trivial⟩ ?_
          intro z40 y41 b38 _ h39
          obtain ⟨k36, l37⟩ := z40
          unfold p_spec_Links_L1 at h39
          refine kwp_seq ?_
          refine kwp_seq ?_
          refine kwp_region ?_
          refine kd (v_mv) ?_
          refine kd (v_fb fa_25_1) ?_
          refine kd (v_ldb Tryd.isAgg23) ?_
          refine kd (v_len Tryd.runUnderlying23) ?_
          refine kd (v_cmp) ?_
          refine kops_nil ?_
          refine kn_then ?_
          refine kwp_cond rfl (fun hc42 => ?_) (fun hc42 => ?_)
          ·
            replace h39 := e_t h39 hc42
            refine kwp_skip ?_
            refine kn_then ?_
            refine kwp_seq ?_
            refine kwp_block ?_
            refine kwp_seq ?_
            refine kwp_region ?_
            refine kd (v_fb fa_25_1) ?_
            refine kd (v_ldb Tryd.isAgg23) ?_
            refine kd (v_mv) ?_
            obtain ⟨j43, ej43, nj43, h39⟩ := e_idx h39
            refine kd (v_ia ej43 nj43 Tryd.runUnderlying23 Tryd.sizeOf48) ?_
            refine kd (v_lda (e := [_, _, _, _, _]) nj43 Tryd.isAgg48 Tryd.sizeOf48) ?_
            refine kk (n_alloc (e := [.int .i64 0, .int .i64 0, .int .i64 0, .int .i64 0, .int .i64 0]) 5 Tryd.zeroValue48 (fun p7_44 => ?_))
            refine kk (s_B (e' := [.int .i64 ((gx s0.legs j43).f), .int .i64 ((gx s0.legs j43).t), .int .i64 ((gx s0.legs j43).e), .int .i64 ((gx s0.legs j43).n), .int .i64 ((gx s0.legs j43).u)]) Tryd.sizeOf48 ?_)
            refine kops_nil ?_
            refine kn_then ?_
            refine kwp_seq ?_
            refine kwp_seq ?_
            refine kwp_region ?_
            refine kd (v_fb fa_48_1) ?_
            refine kd (v_ldb Tryd.isAgg3) ?_
            refine kd (v_mv) ?_
            refine kd (v_cmp) ?_
            refine kops_nil ?_
            refine kn_then ?_
            refine kwp_cutE (inv := [(1, .pointer (some p1_2)), (3, .slice out10a out10.length out10c), (4, .int .i64 a11), (5, .slice (some a31) j30 j30), (6, .int .i64 k36), (7, .pointer (some p7_44))]) (fun (z : Int × Int × Int × Int × Int) (y : Unit) => []) (fun (z : Int × Int × Int × Int × Int) (y : Unit) => (⟨.pointer (some p7_44), 5, [[.int .i64 z.1, .int .i64 z.2.1, .int .i64 z.2.2.1, .int .i64 z.2.2.2.1, .int .i64 z.2.2.2.2]]⟩ :: ⟨.pointer (some p1_2), 2, [[.int .i64 s0.st, .slice s01a s0.legs.length s01c]]⟩ :: ⟨.slice out10a (out10.length) out10c, 1, out10R.map encRow⟩ :: ⟨.slice (some a31) j30 j30, 1, l37.map encI⟩ :: (rowsC out10R))) (fun _ _ => True) h39 ?_ ?_
            · intro t52 h50
              refine kwp_cond rfl (fun hc53 => ?_) (fun hc53 => ?_)
              ·
                replace h50 := e_t h50 hc53
                refine kwp_region ?_
                refine kd (v_ldB Tryd.isAgg48 Tryd.sizeOf48) ?_
                obtain ⟨v55, hv54, h50⟩ := e_bind h50
                refine kk (n_call Tryd.call86 (w_spec_LegBack hv54) ?_)
                rintro _ _ ⟨rfl, rfl⟩
                refine kk (s_B (e' := [.int .i64 v55.f, .int .i64 v55.t, .int .i64 v55.e, .int .i64 v55.n, .int .i64 v55.u]) Tryd.sizeOf48 ?_)
                refine kops_nil ?_
                refine kn_then ?_
                obtain rfl := e_some h50
                exact ⟨(), hd_mk trivial⟩
              ·
                replace h50 := e_f h50 hc53
                refine kwp_skip ?_
                refine kn_then ?_
                obtain rfl := e_some h50
                exact ⟨(), hd_mk trivial⟩
            · intro z57 y58 _ h59
              obtain ⟨f45, t46, e47, n48, u49⟩ := z57
              refine kn_then ?_
              refine kwp_seq ?_
              refine kwp_region ?_
              refine kd (v_fb fa_48_0) ?_
              refine kd (v_ldb Tryd.isAgg3) ?_
              refine kd (v_mv) ?_
              refine kd (v_cmp) ?_
              refine kops_nil ?_
              refine kn_then ?_
              refine kwp_cond rfl (fun hc60 => ?_) (fun hc60 => ?_)
              ·
                replace h59 := e_t h59 hc60
                refine kwp_seq ?_
                refine kwp_region ?_
                refine kd (v_mv) ?_
                refine kd (v_mv) ?_
                refine kd (v_sub) ?_
                refine kd (v_mv) ?_
                refine kd (v_mv) ?_
                refine kd (v_sub) ?_
                obtain ⟨j61, ej61, nj61, h59⟩ := e_idx h59
                refine kd (v_ia ej61 nj61 Tryd.runUnderlying26 Tryd.sizeOf3) ?_
                refine kd (v_ldf nj61 Tryd.isAgg3) ?_
                refine kd (v_add) ?_
                refine kd (v_ia ej61 nj61 Tryd.runUnderlying26 Tryd.sizeOf3) ?_
                refine kk (s_f (w64 ((gx l37 j61) + 1)) nj61 Tryd.sizeOf3 ?_)
                refine kops_nil ?_
                refine kn_then ?_
                refine kwp_seq ?_
                refine kwp_region ?_
                refine kd (v_fb fa_48_1) ?_
                refine kd (v_ldb Tryd.isAgg3) ?_
                refine kd (v_cmp) ?_
                refine kops_nil ?_
                refine kn_then ?_
                refine kwp_cond rfl (fun hc62 => ?_) (fun hc62 => ?_)
                ·
                  replace h59 := e_t h59 hc62
                  obtain ⟨j63, ej63, nj63, h59⟩ := e_idx h59
                  refine kwp_tree (.quiet 0 (.quiet 1 (.quiet 2 (.quiet 3 (.quiet 4 (.quiet 5 (.quiet 6 (.quiet 7 (.quiet 8 (.quiet 9 (.quiet 10 (.quiet 11 (.one 12 .stop))))))))))))) [12] [⟨.slice (some a31) j30 j30, 1, (l37.set j61 (w64 ((gx l37 j61) + 1))).map encI⟩, ⟨.pointer (some p7_44), 5, [[.int .i64 f45, .int .i64 t46, .int .i64 e47, .int .i64 n48, .int .i64 u49]]⟩] drawMixed (by kernel_rfl) nopan (by (repeat (first | exact Sub.refl _ | exact Sub.nil _ | refine Sub.chunk (by repeat (first | exact Pick.here | apply Pick.there | apply Pick.seg)) (by rfl) ?_ | refine Sub.seg (by repeat (first | exact PickSeg.here | exact PickSeg.all | apply PickSeg.there | apply PickSeg.seg)) ?_ | exact Sub.seg0 (by repeat (first | exact PickSeg.here | exact PickSeg.all | apply PickSeg.there | apply PickSeg.seg)) | apply Sub.assoc))) ?_
                  refine kt_d rfl rfl rfl (v_mv) ?_
                  refine kt_d rfl rfl rfl (v_fb fa_48_1) ?_
                  refine kt_d rfl rfl rfl (v_ldb Tryd.isAgg3) ?_
                  refine kt_d rfl rfl rfl (v_sub) ?_
                  refine kt_d rfl rfl rfl (v_mv) ?_
                  refine kt_d rfl rfl rfl (v_fb fa_48_1) ?_
                  refine kt_d rfl rfl rfl (v_ldb Tryd.isAgg3) ?_
                  refine kt_d rfl rfl rfl (v_sub) ?_
                  refine kt_d rfl rfl rfl (v_ia ej63 nj63 Tryd.runUnderlying26 Tryd.sizeOf3) ?_
                  refine kt_d rfl rfl rfl (v_ldf nj63 Tryd.isAgg3) ?_
                  refine kt_d rfl rfl rfl (v_sub) ?_
                  refine kt_d rfl rfl rfl (v_ia ej63 nj63 Tryd.runUnderlying26 Tryd.sizeOf3) ?_
                  refine kt_one ?_
                  refine kl_k rfl rfl (s_f (w64 ((gx (l37.set j61 (w64 ((gx l37 j61) + 1))) j63) - 1)) nj63 Tryd.sizeOf3 ?_)
                  refine ⟨.inr ⟨by decide, rfl⟩, ?_⟩
                  refine kt_nil ?_
                  refine kn_block ?_
                  refine kn_then ?_
                  refine kwp_region ?_
                  refine kd (v_mv) ?_
                  refine kd (v_add) ?_
                  refine kd (v_as) ?_
                  refine kops_nil ?_
                  refine kn_then ?_
                  obtain rfl := e_some h59
                  exact ⟨_, (), rfl, hd_mk trivial⟩
                ·
                  replace h59 := e_f h59 hc62
                  refine kwp_skip ?_
                  refine kn_block ?_
                  refine kn_then ?_
                  refine kwp_region ?_
                  refine kd (v_mv) ?_
                  refine kd (v_add) ?_
                  refine kd (v_as) ?_
                  refine kops_nil ?_
                  refine kn_then ?_
                  obtain rfl := e_some h59
                  exact ⟨_, (), rfl, hd_mk trivial⟩
              ·
                replace h59 := e_f h59 hc60
                refine kwp_skip ?_
                refine kn_block ?_
                refine kn_then ?_
                refine kwp_region ?_
                refine kd (v_mv) ?_
                refine kd (v_add) ?_
                refine kd (v_as) ?_
                refine kops_nil ?_
                refine kn_then ?_
                obtain rfl := e_some h59
                exact ⟨_, (), rfl, hd_mk trivial⟩
          ·
            replace h39 := e_f h39 hc42
            refine kwp_exit ?_
            refine ke_then ?_
            obtain rfl := e_some h39
            refine k_out ?_ rfl
            rintro rfl
            refine ke_block ?_
            exact ⟨(), hd_mk trivial⟩
        · intro l32 y65 _ h66
          refine kn_then ?_
          refine kwp_region ?_
          refine kd (v_mv) ?_
          refine kd (v_mv) ?_
          refine kk (n_lit (enc := fun v => v) [_] [[.slice (some a31) j30 j30]] Tryd.runUnderlying51 Tryd.sizeOf26 Tryd.zeroValue26 (fun a67 => ?_))
          obtain ⟨hz68, h66⟩ := e_need h66
          refine kk (n_appM (l := l32) hout10R hz68 Tryd.underlying51 Tryd.type26 (by decide) (fun a69 c70 R71 hR71 => ?_))
          refine kd (v_as) ?_
          refine kops_nil ?_
          refine kn_block ?_
          refine kn_then ?_
          refine kwp_region ?_
          refine kd (v_mv) ?_
          refine kd (v_add) ?_
          refine kd (v_as) ?_
          refine kops_nil ?_
          refine kn_then ?_
          obtain rfl := e_some h66
          exact ⟨_, (a69, (out10 ++ [l32]).length, c70, R71), rfl, hd_mk ⟨hR71, trivial⟩⟩
      ·
        replace h28 := e_f h28 hc29
        refine kwp_exit ?_
        refine ke_then ?_
        obtain rfl := e_some h28
        refine k_out ?_ rfl
        rintro rfl
        refine ke_block ?_
        exact ⟨(out10a, out10.length, out10c, out10R), hd_mk ⟨hout10R, trivial⟩⟩
  · intro out6 y73 hp75 h74
    obtain ⟨out6a, out6n, out6c, out6R⟩ := y73
    obtain ⟨hout6R, _⟩ := hp75
    refine k_lenM (c := out6c) (m := out6) hout6R (fun hl76 => ?_)
    subst hl76
    refine kwp_seq ?_
    refine kwp_region ?_
    refine kd (v_mv) ?_
    refine kd (v_as) ?_
    refine kops_nil ?_
    refine kn_then ?_
    refine kwp_ret ?_
    obtain rfl := e_some h74
    refine r1 (⟨.slice out6a (out6.length) out6c, 1, out6R.map encRow⟩ :: (rowsC out6R)) ?_
    exact ⟨out6a, out6c, out6R, rfl, hout6R, rfl⟩

end Go.Proofs.YtnibfmofkamjoaaDoor
