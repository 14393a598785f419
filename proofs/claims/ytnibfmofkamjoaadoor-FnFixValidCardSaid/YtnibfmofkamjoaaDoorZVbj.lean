/- What the plain programs return, the functions of the program return; no condition. -/
import Derived.Test.YtnibfmofkamjoaaDoorZQ
import Derived.Test.YtnibfmofkamjoaaDoorZFa
import Derived.Test.YtnibfmofkamjoaaDoorZVbl
import Derived.Test.YtnibfmofkamjoaaDoorZVbs
import Derived.Test.YtnibfmofkamjoaaDoorZVbq
namespace Go.Proofs.YtnibfmofkamjoaaDoor
open Go
set_option linter.unusedVariables false
set_option linter.unusedSimpArgs false

set_option maxRecDepth 20000 in
theorem w_spec_l2Right (s01a : Option Addr) (s01n : Nat) (s01c : Nat) {s0 : Survey} {direction0 : Int} {r : List Int} (h : p_spec_l2Right s0 direction0 = some r) :
    Triple Tryd.prog 80 [.agg #[.int .i64 s0.st, .slice s01a s01n s01c], .int .i64 direction0] [⟨.slice s01a s01n s01c, 5, s0.legs.map encLeg⟩] [] (fun v ch => ∃ (w0a : Option Addr) (w0c : Nat), v = .slice w0a r.length w0c ∧ ch = [⟨.slice w0a r.length w0c, 1, r.map encI⟩]) := by
  refine triple_start 58 Tryd.func80 Tryd.ntmps80 rfl rfl (fun w0 => ?_)
  refine k_len (c := s01c) (fun hl1 => ?_)
  subst hl1
  unfold p_spec_l2Right at h
  refine kwp_seq ?_
  refine kwp_region ?_
  refine kk (n_box (e := [.int .i64 s0.st, .slice s01a s0.legs.length s01c]) 2 (fun p2_2 => ?_))
  refine kops_nilchunk 1 (by decide) ?_
  refine kd (v_as) ?_
  refine kops_nil ?_
  refine kn_then ?_
  refine kwp_seq ?_
  refine kwp_region ?_
  refine kd (v_fb fa_25_0) ?_
  refine kd (v_ldb Tryd.isAgg3) ?_
  obtain ⟨j3, ej3, nj3, h⟩ := e_sized h
  refine kk (n_make (enc := encI) 0 ej3 nj3 Tryd.underlying26 Tryd.type3 (by decide) (fun a4 => ?_))
  refine kd (v_as) ?_
  refine kops_nil ?_
  refine kn_then ?_
  refine kwp_seq ?_
  refine kwp_seq ?_
  refine kwp_region ?_
  refine kd (v_as) ?_
  refine kops_nil ?_
  refine kn_then ?_
  refine kwp_cutE (inv := [(5, .slice (some a4) j3 j3)]) (fun (z : List Int) (y : Unit) => []) (fun (z : List Int) (y : Unit) => [⟨.slice (some a4) j3 j3, 1, z.map encI⟩]) (fun _ _ => True) h ?_ ?_
  · intro t8 h6
    refine kwp_block ?_
    refine kwp_loopE (inv := [(1, .int .i64 direction0), (2, .pointer (some p2_2)), (5, .slice (some a4) j3 j3)]) (fun (z : Int × List Int) (y : Unit) => [(6, .int .i64 z.1)]) (fun (z : Int × List Int) (y : Unit) => [⟨.slice (some a4) j3 j3, 1, z.2.map encI⟩, ⟨.pointer (some p2_2), 2, [[.int .i64 s0.st, .slice s01a s0.legs.length s01c]]⟩]) (fun _ _ => True) h6 ⟨(), hd_mk trivial⟩ ?_
    intro z13 y14 b11 _ h12
    obtain ⟨k9, l10⟩ := z13
    unfold p_spec_l2Right_L0 at h12
    refine kwp_seq ?_
    refine kwp_seq ?_
    refine kwp_region ?_
    refine kd (v_mv) ?_
    refine kd (v_fb fa_25_1) ?_
    refine kd (v_ldb Tryd.isAgg23) ?_
    refine kd (v_len Tryd.runUnderlying23) ?_
    refine kd (v_cmp) ?_
    refine kops_nil ?_
    refine kn_then ?_
    refine kwp_cond rfl (fun hc15 => ?_) (fun hc15 => ?_)
    ·
      replace h12 := e_t h12 hc15
      refine kwp_skip ?_
      refine kn_then ?_
      refine kwp_seq ?_
      refine kwp_block ?_
      refine kwp_seq ?_
      refine kwp_region ?_
      refine kd (v_fb fa_25_1) ?_
      refine kd (v_ldb Tryd.isAgg23) ?_
      refine kd (v_mv) ?_
      obtain ⟨j16, ej16, nj16, h12⟩ := e_idx h12
      refine kd (v_ia ej16 nj16 Tryd.runUnderlying23 Tryd.sizeOf48) ?_
      refine kd (v_lda (e := [_, _, _, _, _]) nj16 Tryd.isAgg48 Tryd.sizeOf48) ?_
      refine kk (n_alloc (e := [.int .i64 0, .int .i64 0, .int .i64 0, .int .i64 0, .int .i64 0]) 5 Tryd.zeroValue48 (fun p7_17 => ?_))
      refine kk (s_B (e' := [.int .i64 ((gx s0.legs j16).f), .int .i64 ((gx s0.legs j16).t), .int .i64 ((gx s0.legs j16).e), .int .i64 ((gx s0.legs j16).n), .int .i64 ((gx s0.legs j16).u)]) Tryd.sizeOf48 ?_)
      refine kops_nil ?_
      refine kn_then ?_
      refine kwp_seq ?_
      refine kwp_region ?_
      refine kd (v_fb fa_48_2) ?_
      refine kd (v_ldb Tryd.isAgg3) ?_
      refine kd (v_fb fa_48_3) ?_
      refine kd (v_ldb Tryd.isAgg3) ?_
      refine kd (v_fb fa_48_4) ?_
      refine kd (v_ldb Tryd.isAgg3) ?_
      refine kk (n_lit (enc := encI) [_, _, _] ([(gx s0.legs j16).e, (gx s0.legs j16).n, (gx s0.legs j16).u] : List Int) Tryd.runUnderlying26 Tryd.sizeOf3 Tryd.zeroValue3 (fun a18 => ?_))
      refine kd (v_mv) ?_
      obtain ⟨j19, ej19, nj19, h12⟩ := e_idx h12
      refine kd (v_ia ej19 nj19 Tryd.runUnderlying26 Tryd.sizeOf3) ?_
      refine kd (v_ldf nj19 Tryd.isAgg3) ?_
      refine kd (v_as) ?_
      refine kops_nil ?_
      refine kn_then ?_
      refine kwp_seq ?_
      obtain ⟨j20, ej20, nj20, h12⟩ := e_idx h12
      refine kwp_tree (.quiet 0 (.quiet 1 (.quiet 2 (.quiet 3 (.quiet 4 (.quiet 5 (.quiet 6 (.quiet 7 (.quiet 8 (.quiet 9 (.quiet 10 (.one 11 .stop)))))))))))) [11] [⟨.slice (some a4) j3 j3, 1, l10.map encI⟩, ⟨.pointer (some p7_17), 5, [[.int .i64 ((gx s0.legs j16).f), .int .i64 ((gx s0.legs j16).t), .int .i64 ((gx s0.legs j16).e), .int .i64 ((gx s0.legs j16).n), .int .i64 ((gx s0.legs j16).u)]]⟩] drawMixed (by kernel_rfl) nopan (by (repeat (first | exact Sub.refl _ | exact Sub.nil _ | refine Sub.chunk (by repeat (first | exact Pick.here | apply Pick.there | apply Pick.seg)) (by rfl) ?_ | refine Sub.seg (by repeat (first | exact PickSeg.here | exact PickSeg.all | apply PickSeg.there | apply PickSeg.seg)) ?_ | exact Sub.seg0 (by repeat (first | exact PickSeg.here | exact PickSeg.all | apply PickSeg.there | apply PickSeg.seg)) | apply Sub.assoc))) ?_
      refine kt_d rfl rfl rfl (v_mv) ?_
      refine kt_d rfl rfl rfl (v_fb fa_48_1) ?_
      refine kt_d rfl rfl rfl (v_ldb Tryd.isAgg3) ?_
      refine kt_d rfl rfl rfl (v_mv) ?_
      refine kt_d rfl rfl rfl (v_fb fa_48_1) ?_
      refine kt_d rfl rfl rfl (v_ldb Tryd.isAgg3) ?_
      refine kt_d rfl rfl rfl (v_ia ej20 nj20 Tryd.runUnderlying26 Tryd.sizeOf3) ?_
      refine kt_d rfl rfl rfl (v_ldf nj20 Tryd.isAgg3) ?_
      refine kt_d rfl rfl rfl (v_mv) ?_
      refine kt_d rfl rfl rfl (v_add) ?_
      refine kt_d rfl rfl rfl (v_ia ej20 nj20 Tryd.runUnderlying26 Tryd.sizeOf3) ?_
      refine kt_one ?_
      refine kl_k rfl rfl (s_f (w64 ((gx l10 j20) + (gx ([(gx s0.legs j16).e, (gx s0.legs j16).n, (gx s0.legs j16).u] : List Int) j19))) nj20 Tryd.sizeOf3 ?_)
      refine ⟨.inr ⟨by decide, rfl⟩, ?_⟩
      refine kt_nil ?_
      refine kn_then ?_
      obtain ⟨j21, ej21, nj21, h12⟩ := e_idx h12
      refine kwp_tree (.quiet 0 (.quiet 1 (.quiet 2 (.quiet 3 (.quiet 4 (.quiet 5 (.quiet 6 (.quiet 7 (.quiet 8 (.quiet 9 (.quiet 10 (.one 11 .stop)))))))))))) [11] [⟨.slice (some a4) j3 j3, 1, (l10.set j20 (w64 ((gx l10 j20) + (gx ([(gx s0.legs j16).e, (gx s0.legs j16).n, (gx s0.legs j16).u] : List Int) j19)))).map encI⟩, ⟨.pointer (some p7_17), 5, [[.int .i64 ((gx s0.legs j16).f), .int .i64 ((gx s0.legs j16).t), .int .i64 ((gx s0.legs j16).e), .int .i64 ((gx s0.legs j16).n), .int .i64 ((gx s0.legs j16).u)]]⟩] drawMixed (by kernel_rfl) nopan (by (repeat (first | exact Sub.refl _ | exact Sub.nil _ | refine Sub.chunk (by repeat (first | exact Pick.here | apply Pick.there | apply Pick.seg)) (by rfl) ?_ | refine Sub.seg (by repeat (first | exact PickSeg.here | exact PickSeg.all | apply PickSeg.there | apply PickSeg.seg)) ?_ | exact Sub.seg0 (by repeat (first | exact PickSeg.here | exact PickSeg.all | apply PickSeg.there | apply PickSeg.seg)) | apply Sub.assoc))) ?_
      refine kt_d rfl rfl rfl (v_mv) ?_
      refine kt_d rfl rfl rfl (v_fb fa_48_0) ?_
      refine kt_d rfl rfl rfl (v_ldb Tryd.isAgg3) ?_
      refine kt_d rfl rfl rfl (v_mv) ?_
      refine kt_d rfl rfl rfl (v_fb fa_48_0) ?_
      refine kt_d rfl rfl rfl (v_ldb Tryd.isAgg3) ?_
      refine kt_d rfl rfl rfl (v_ia ej21 nj21 Tryd.runUnderlying26 Tryd.sizeOf3) ?_
      refine kt_d rfl rfl rfl (v_ldf nj21 Tryd.isAgg3) ?_
      refine kt_d rfl rfl rfl (v_mv) ?_
      refine kt_d rfl rfl rfl (v_sub) ?_
      refine kt_d rfl rfl rfl (v_ia ej21 nj21 Tryd.runUnderlying26 Tryd.sizeOf3) ?_
      refine kt_one ?_
      refine kl_k rfl rfl (s_f (w64 ((gx (l10.set j20 (w64 ((gx l10 j20) + (gx ([(gx s0.legs j16).e, (gx s0.legs j16).n, (gx s0.legs j16).u] : List Int) j19)))) j21) - (gx ([(gx s0.legs j16).e, (gx s0.legs j16).n, (gx s0.legs j16).u] : List Int) j19))) nj21 Tryd.sizeOf3 ?_)
      refine ⟨.inr ⟨by decide, rfl⟩, ?_⟩
      refine kt_nil ?_
      refine kn_block ?_
      refine kn_then ?_
      refine kwp_region ?_
      refine kd (v_mv) ?_
      refine kd (v_add) ?_
      refine kd (v_as) ?_
      refine kops_nil ?_
      refine kn_then ?_
      obtain rfl := e_some h12
      exact ⟨_, (), rfl, hd_mk trivial⟩
    ·
      replace h12 := e_f h12 hc15
      refine kwp_exit ?_
      refine ke_then ?_
      obtain rfl := e_some h12
      refine k_out ?_ rfl
      rintro rfl
      refine ke_block ?_
      exact ⟨(), hd_mk trivial⟩
  · intro l5 y23 _ h24
    refine kn_then ?_
    refine kwp_seq ?_
    obtain ⟨j25, j26, ej25, ej26, oj25, oj26, h24⟩ := e_cut h24
    refine kwp_region ?_
    refine kd (v_mv) ?_
    refine kd (v_sl (l := j25) (h := j26) oj25 oj26 Tryd.runUnderlying26 Tryd.sizeOf3 (hlo := by exact ⟨_, _, rfl, ej25⟩) (hhi := by show _ = _; omega)) ?_
    refine kops_shr oj25 oj26 ?_
    refine kd (v_as) ?_
    refine kops_nil ?_
    refine kn_then ?_
    refine k_len (c := (j3 - j25)) (fun hl27 => ?_)
    refine kwp_ret ?_
    obtain rfl := e_some h24
    refine r1 [⟨.slice (subA (some a4) j3 1 j25) (j26 - j25) (j3 - j25), 1, ((l5.drop j25).take (j26 - j25)).map encI⟩] ?_
    exact ⟨(subA (some a4) j3 1 j25), (j3 - j25), by first | rfl | (rw [← hl27] <;> rfl) | ((try dsimp only); rw [← hl27] <;> rfl) | (simp; done), by first | rfl | (rw [← hl27] <;> rfl) | ((try dsimp only); rw [← hl27] <;> rfl) | (simp; done)⟩

set_option maxRecDepth 20000 in
set_option maxHeartbeats 2000000 in
theorem w_spec_Adjust (s01a : Option Addr) (s01n : Nat) (s01c : Nat) {s0 : Survey} {r : Fix × Bool} (h : p_spec_Adjust s0 = some r) :
    Triple Tryd.prog 28 [.agg #[.int .i64 s0.st, .slice s01a s01n s01c]] [⟨.slice s01a s01n s01c, 5, s0.legs.map encLeg⟩] [] (fun v ch => ∃ (w01a : Option Addr) (w01c : Nat), v = .tuple #[.agg #[.int .i64 r.1.den, .slice w01a r.1.nums.length w01c], .bool r.2] ∧ ch = [⟨.slice w01a r.1.nums.length w01c, 3, r.1.nums.map encWay⟩]) := by
  refine triple_start 74 Tryd.func28 Tryd.ntmps28 rfl rfl (fun w0 => ?_)
  refine k_len (c := s01c) (fun hl1 => ?_)
  subst hl1
  unfold p_spec_Adjust at h
  refine kwp_seq ?_
  refine kwp_region ?_
  refine kk (n_box (e := [.int .i64 s0.st, .slice s01a s0.legs.length s01c]) 2 (fun p1_2 => ?_))
  refine kops_nilchunk 3 (by decide) ?_
  refine kk (n_alloc (e := [.int .i64 0, .slice none 0 0]) 2 Tryd.zeroValue31 (fun p2_3 => ?_))
  refine kd (v_as) ?_
  refine kops_nil ?_
  refine kn_then ?_
  refine kwp_seq ?_
  refine kwp_seq ?_
  refine kwp_cutE (inv := [(1, .pointer (some p1_2)), (2, .pointer (some p2_3))]) (fun (z : Bool) (y : Unit) => [(20, .bool z)]) (fun (z : Bool) (y : Unit) => [⟨.pointer (some p1_2), 2, [[.int .i64 s0.st, .slice s01a s0.legs.length s01c]]⟩, ⟨.pointer (some p2_3), 2, [[.int .i64 0, .slice none 0 0]]⟩, ⟨.slice none 0 0, 3, ([] : List Way).map encWay⟩]) (fun _ _ => True) h ?_ ?_
  · intro t7 h5
    refine kwp_region ?_
    refine kd (v_ldB Tryd.isAgg25 Tryd.sizeOf25) ?_
    obtain ⟨v9, hv8, h5⟩ := e_bind h5
    refine kk (n_call Tryd.call39 (w_spec_SurveyValid s01a s0.legs.length s01c hv8) ?_)
    rintro _ _ ⟨rfl, rfl⟩
    refine kd (v_not) ?_
    refine kd (v_mv) ?_
    refine kops_split 16 rfl (fun hb11 => ?_) (fun hb11 => ?_)
    ·
      replace h5 := e_t h5 hb11
      refine kskip hb11 ?_
      refine kskip hb11 ?_
      refine kskip hb11 ?_
      refine kd (v_pt hb11) ?_
      refine kops_nil ?_
      refine kn_then ?_
      obtain rfl := e_some h5
      exact ⟨(), hd_mk trivial⟩
    ·
      replace h5 := e_f h5 hb11
      refine kgd hb11 (v_ldB Tryd.isAgg25 Tryd.sizeOf25) ?_
      obtain ⟨v13, hv12, h5⟩ := e_bind h5
      refine kgk hb11 (n_call Tryd.call79 (w_spec_PartsMany s01a s0.legs.length s01c hv12) ?_)
      rintro _ _ ⟨rfl, rfl⟩
      refine kgd hb11 (v_cmp) ?_
      refine kd (v_pf hb11) ?_
      refine kops_nil ?_
      refine kn_then ?_
      obtain rfl := e_some h5
      exact ⟨(), hd_mk trivial⟩
  · intro x4 y16 _ h17
    refine kn_then ?_
    refine kwp_cond rfl (fun hc18 => ?_) (fun hc18 => ?_)
    ·
      replace h17 := e_t h17 hc18
      refine kwp_seq ?_
      refine kwp_region ?_
      refine kops_nilchunk 3 (by decide) ?_
      refine kd (v_bd [] [.int .i64 0, .slice none 0 0] Tryd.zeroValue31 Tryd.runUnderlying31 pl_31) ?_
      refine kk (s_B (e' := [.int .i64 0, .slice none 0 0]) Tryd.sizeOf31 ?_)
      refine kd (v_as) ?_
      refine kops_nil ?_
      refine kn_then ?_
      refine kwp_ret ?_
      refine kr_then ?_
      obtain rfl := e_some h17
      refine rc1 Tryd.isAgg31 Tryd.sizeOf31 [⟨.slice none 0 0, 3, ([] : List Way).map encWay⟩] ?_
      exact ⟨none, 0, rfl, rfl⟩
    ·
      replace h17 := e_f h17 hc18
      refine kwp_skip ?_
      refine kn_then ?_
      refine kwp_seq ?_
      refine kwp_region ?_
      refine kd (v_ldB Tryd.isAgg25 Tryd.sizeOf25) ?_
      obtain ⟨v20, hv19, h17⟩ := e_bind h17
      refine kk (n_call Tryd.call38 (w_spec_Links s01a s0.legs.length s01c hv19) ?_)
      rintro _ _ ⟨q21a, q21c, q21R, rfl, hq21R, rfl⟩
      refine kd (v_as) ?_
      refine kops_nil ?_
      refine kn_then ?_
      refine kwp_seq ?_
      refine kwp_region ?_
      refine kd (v_mv) ?_
      refine kd (v_ldB Tryd.isAgg25 Tryd.sizeOf25) ?_
      obtain ⟨v23, hv22, h17⟩ := e_bind h17
      refine kk (n_call Tryd.call80 (w_spec_l2Right s01a s0.legs.length s01c hv22) ?_)
      rintro _ _ ⟨q24a, q24c, rfl, rfl⟩
      obtain ⟨⟨v26, v27⟩, hv25, h17⟩ := e_bind h17
      refine kk (n_call Tryd.call61 (w_spec_Solve q21a v20.length q21c q21R q24a v23.length q24c hq21R hv25) ?_)
      rintro _ _ ⟨q28a, q28c, rfl, rfl⟩
      refine kd (v_mv) ?_
      refine kd (v_ex) ?_
      refine kd (v_ex) ?_
      refine kd (v_as) ?_
      refine kd (v_as) ?_
      refine kops_nil ?_
      refine kn_then ?_
      refine kwp_seq ?_
      refine kwp_region ?_
      refine kd (v_mv) ?_
      refine kd (v_ldB Tryd.isAgg25 Tryd.sizeOf25) ?_
      obtain ⟨v31, hv30, h17⟩ := e_bind h17
      refine kk (n_call Tryd.call80 (w_spec_l2Right s01a s0.legs.length s01c hv30) ?_)
      rintro _ _ ⟨q32a, q32c, rfl, rfl⟩
      obtain ⟨⟨v34, v35⟩, hv33, h17⟩ := e_bind h17
      refine kk (n_call Tryd.call61 (w_spec_Solve q21a v20.length q21c q21R q32a v31.length q32c hq21R hv33) ?_)
      rintro _ _ ⟨q36a, q36c, rfl, rfl⟩
      refine kd (v_mv) ?_
      refine kd (v_ex) ?_
      refine kd (v_ex) ?_
      refine kd (v_as) ?_
      refine kd (v_as) ?_
      refine kops_nil ?_
      refine kn_then ?_
      refine kwp_seq ?_
      refine kwp_region ?_
      refine kd (v_mv) ?_
      refine kd (v_ldB Tryd.isAgg25 Tryd.sizeOf25) ?_
      obtain ⟨v39, hv38, h17⟩ := e_bind h17
      refine kk (n_call Tryd.call80 (w_spec_l2Right s01a s0.legs.length s01c hv38) ?_)
      rintro _ _ ⟨q40a, q40c, rfl, rfl⟩
      obtain ⟨⟨v42, v43⟩, hv41, h17⟩ := e_bind h17
      refine kk (n_call Tryd.call61 (w_spec_Solve q21a v20.length q21c q21R q40a v39.length q40c hq21R hv41) ?_)
      rintro _ _ ⟨q44a, q44c, rfl, rfl⟩
      refine kd (v_mv) ?_
      refine kd (v_ex) ?_
      refine kd (v_ex) ?_
      refine kd (v_as) ?_
      refine kd (v_as) ?_
      refine kops_nil ?_
      refine kn_then ?_
      refine kwp_seq ?_
      refine kwp_region ?_
      refine kd (v_mv) ?_
      refine kd (v_bd [] [.int .i64 0, .int .i64 0, .int .i64 0] Tryd.zeroValue37 Tryd.runUnderlying37 pl_37) ?_
      refine kk (n_lit (enc := encWay) [_] ([(⟨0, 0, 0⟩ : Way)] : List Way) Tryd.runUnderlying29 Tryd.sizeOf37 Tryd.zeroValue37 (fun a46 => ?_))
      refine kd (v_bd [(0, _), (1, _)] [_, _] Tryd.zeroValue31 Tryd.runUnderlying31 pl_31) ?_
      refine kops_nilchunk 3 (by decide) ?_
      refine kk (n_alloc (e := [.int .i64 0, .slice none 0 0]) 2 Tryd.zeroValue31 (fun p11_47 => ?_))
      refine kk (s_B (e' := [.int .i64 v27, .slice (some a46) 1 1]) Tryd.sizeOf31 ?_)
      refine kops_nil ?_
      refine kn_then ?_
      refine kwp_seq ?_
      refine kwp_seq ?_
      refine kwp_region ?_
      refine kd (v_as) ?_
      refine kops_nil ?_
      refine kn_then ?_
      refine kwp_cutE (inv := [(2, .pointer (some p2_3)), (11, .pointer (some p11_47))]) (fun (z : List Way) (y : Option Addr × Nat × Nat) => []) (fun (z : List Way) (y : Option Addr × Nat × Nat) => [⟨.pointer (some p11_47), 2, [[.int .i64 v27, .slice y.1 y.2.1 y.2.2]]⟩, ⟨.slice y.1 y.2.1 y.2.2, 3, z.map encWay⟩, ⟨.pointer (some p2_3), 2, [[.int .i64 0, .slice none 0 0]]⟩, ⟨.slice none 0 0, 3, ([] : List Way).map encWay⟩]) (fun _ _ => True) h17 ?_ ?_
      · intro t51 h49
        refine kwp_block ?_
        refine kwp_loopE (inv := [(2, .pointer (some p2_3)), (5, .slice q28a v26.length q28c), (7, .slice q36a v34.length q36c), (9, .slice q44a v42.length q44c), (11, .pointer (some p11_47))]) (fun (z : Int × List Way) (y : Option Addr × Nat × Nat) => [(12, .int .i64 z.1)]) (fun (z : Int × List Way) (y : Option Addr × Nat × Nat) => [⟨.pointer (some p11_47), 2, [[.int .i64 v27, .slice y.1 y.2.1 y.2.2]]⟩, ⟨.slice y.1 y.2.1 y.2.2, 3, z.2.map encWay⟩, ⟨.pointer (some p2_3), 2, [[.int .i64 0, .slice none 0 0]]⟩, ⟨.slice none 0 0, 3, ([] : List Way).map encWay⟩, ⟨.slice q28a v26.length q28c, 1, v26.map encI⟩, ⟨.slice q36a v34.length q36c, 1, v34.map encI⟩, ⟨.slice q44a v42.length q44c, 1, v42.map encI⟩]) (fun _ _ => True) h49 ⟨(some a46, 1, 1), hd_mk trivial⟩ ?_
        intro z56 y57 b54 _ h55
        obtain ⟨k52, nums53⟩ := z56
        obtain ⟨nums53a, nums53n, nums53c⟩ := y57
        refine k_len (c := nums53c) (fun hl58 => ?_)
        subst hl58
        unfold p_spec_Adjust_L0 at h55
        refine kwp_seq ?_
        refine kwp_seq ?_
        refine kwp_region ?_
        refine kd (v_mv) ?_
        refine kd (v_mv) ?_
        refine kd (v_len Tryd.runUnderlying26) ?_
        refine kd (v_cmp) ?_
        refine kops_nil ?_
        refine kn_then ?_
        refine kwp_cond rfl (fun hc59 => ?_) (fun hc59 => ?_)
        ·
          replace h55 := e_t h55 hc59
          refine kwp_skip ?_
          refine kn_then ?_
          refine kwp_seq ?_
          refine kwp_block ?_
          obtain ⟨j60, ej60, nj60, h55⟩ := e_idx h55
          obtain ⟨j61, ej61, nj61, h55⟩ := e_idx h55
          obtain ⟨j62, ej62, nj62, h55⟩ := e_idx h55
          obtain ⟨hz64, h55⟩ := e_need h55
          refine kwp_tree (.quiet 0 (.quiet 1 (.quiet 2 (.quiet 3 (.quiet 4 (.quiet 5 (.quiet 6 (.quiet 7 (.quiet 8 (.quiet 9 (.quiet 10 (.quiet 11 (.quiet 12 (.quiet 13 (.quiet 14 (.one 15 (.one 16 (.quiet 17 (.one 18 .stop))))))))))))))))))) [18] [⟨.slice q28a v26.length q28c, 1, v26.map encI⟩, ⟨.slice q36a v34.length q36c, 1, v34.map encI⟩, ⟨.slice q44a v42.length q44c, 1, v42.map encI⟩, ⟨.pointer (some p11_47), 2, [[.int .i64 v27, .slice nums53a nums53.length nums53c]]⟩] drawMixed (by kernel_rfl) nopan (by (repeat (first | exact Sub.refl _ | exact Sub.nil _ | refine Sub.chunk (by repeat (first | exact Pick.here | apply Pick.there | apply Pick.seg)) (by rfl) ?_ | refine Sub.seg (by repeat (first | exact PickSeg.here | exact PickSeg.all | apply PickSeg.there | apply PickSeg.seg)) ?_ | exact Sub.seg0 (by repeat (first | exact PickSeg.here | exact PickSeg.all | apply PickSeg.there | apply PickSeg.seg)) | apply Sub.assoc))) ?_
          refine kt_d rfl rfl rfl (v_fb fa_31_1) ?_
          refine kt_d rfl rfl rfl (v_ldb Tryd.isAgg29) ?_
          refine kt_d rfl rfl rfl (v_mv) ?_
          refine kt_d rfl rfl rfl (v_mv) ?_
          refine kt_d rfl rfl rfl (v_ia ej60 nj60 Tryd.runUnderlying26 Tryd.sizeOf3) ?_
          refine kt_d rfl rfl rfl (v_ldf nj60 Tryd.isAgg3) ?_
          refine kt_d rfl rfl rfl (v_mv) ?_
          refine kt_d rfl rfl rfl (v_mv) ?_
          refine kt_d rfl rfl rfl (v_ia ej61 nj61 Tryd.runUnderlying26 Tryd.sizeOf3) ?_
          refine kt_d rfl rfl rfl (v_ldf nj61 Tryd.isAgg3) ?_
          refine kt_d rfl rfl rfl (v_mv) ?_
          refine kt_d rfl rfl rfl (v_mv) ?_
          refine kt_d rfl rfl rfl (v_ia ej62 nj62 Tryd.runUnderlying26 Tryd.sizeOf3) ?_
          refine kt_d rfl rfl rfl (v_ldf nj62 Tryd.isAgg3) ?_
          refine kt_d rfl rfl rfl (v_bd [(0, _), (1, _), (2, _)] [_, _, _] Tryd.zeroValue37 Tryd.runUnderlying37 pl_37) ?_
          refine kt_one ?_
          refine kl_k rfl rfl (n_lit (enc := encWay) [_] ([(⟨gx v26 j60, gx v34 j61, gx v42 j62⟩ : Way)] : List Way) Tryd.runUnderlying29 Tryd.sizeOf37 Tryd.zeroValue37 (fun a63 => ?_))
          refine ⟨.inl (by (repeat (first | exact Sub.refl _ | exact Sub.nil _ | refine Sub.chunk (by repeat (first | exact Pick.here | apply Pick.there | apply Pick.seg)) (by rfl) ?_ | refine Sub.seg (by repeat (first | exact PickSeg.here | exact PickSeg.all | apply PickSeg.there | apply PickSeg.seg)) ?_ | exact Sub.seg0 (by repeat (first | exact PickSeg.here | exact PickSeg.all | apply PickSeg.there | apply PickSeg.seg)) | apply Sub.assoc))), ?_⟩
          refine kt_one ?_
          refine kl_k rfl rfl (n_app (enc := encWay) ok_encWay hz64 Tryd.underlying29 Tryd.type37 (by decide) (fun a65 c66 => ?_))
          refine ⟨.inl (by (repeat (first | exact Sub.refl _ | exact Sub.nil _ | refine Sub.chunk (by repeat (first | exact Pick.here | apply Pick.there | apply Pick.seg)) (by rfl) ?_ | refine Sub.seg (by repeat (first | exact PickSeg.here | exact PickSeg.all | apply PickSeg.there | apply PickSeg.seg)) ?_ | exact Sub.seg0 (by repeat (first | exact PickSeg.here | exact PickSeg.all | apply PickSeg.there | apply PickSeg.seg)) | apply Sub.assoc))), ?_⟩
          refine kt_d rfl rfl rfl (v_fb fa_31_1) ?_
          refine kt_one ?_
          refine kl_k rfl rfl (s_b (e' := [.int .i64 v27, .slice a65 ((nums53 ++ ([(⟨gx v26 j60, gx v34 j61, gx v42 j62⟩ : Way)] : List Way)).length) c66]) Tryd.sizeOf29 ?_)
          refine ⟨.inr ⟨by decide, rfl⟩, ?_⟩
          refine kt_nil ?_
          refine kn_block ?_
          refine kn_then ?_
          refine kwp_region ?_
          refine kd (v_mv) ?_
          refine kd (v_add) ?_
          refine kd (v_as) ?_
          refine kops_nil ?_
          refine kn_then ?_
          obtain rfl := e_some h55
          exact ⟨_, (a65, (nums53 ++ ([(⟨gx v26 j60, gx v34 j61, gx v42 j62⟩ : Way)] : List Way)).length, c66), rfl, hd_mk trivial⟩
        ·
          replace h55 := e_f h55 hc59
          refine kwp_exit ?_
          refine ke_then ?_
          obtain rfl := e_some h55
          refine k_out ?_ rfl
          rintro rfl
          refine ke_block ?_
          exact ⟨(nums53a, nums53.length, nums53c), hd_mk trivial⟩
      · intro nums48 y68 _ h69
        obtain ⟨nums48a, nums48n, nums48c⟩ := y68
        refine k_len (c := nums48c) (fun hl70 => ?_)
        subst hl70
        refine kwp_seq ?_
        refine kwp_region ?_
        refine kd (v_ldB Tryd.isAgg31 Tryd.sizeOf31) ?_
        refine kk (s_B (e' := [.int .i64 v27, .slice nums48a nums48.length nums48c]) Tryd.sizeOf31 ?_)
        refine kd (v_as) ?_
        refine kops_nil ?_
        refine kn_then ?_
        refine kwp_ret ?_
        obtain rfl := e_some h69
        refine rc1 Tryd.isAgg31 Tryd.sizeOf31 [⟨.slice nums48a (nums48.length) nums48c, 3, nums48.map encWay⟩] ?_
        exact ⟨nums48a, nums48c, rfl, rfl⟩

set_option maxRecDepth 20000 in
set_option maxHeartbeats 2000000 in
theorem w_impl_FixValid (s01a : Option Addr) (s01n : Nat) (s01c : Nat) (f01a : Option Addr) (f01n : Nat) (f01c : Nat) {s0 : Survey} {f0 : Fix} {r : Bool} (h : p_impl_FixValid s0 f0 = some r) :
    Triple Tryd.prog 22 [.agg #[.int .i64 s0.st, .slice s01a s01n s01c], .agg #[.int .i64 f0.den, .slice f01a f01n f01c]] [⟨.slice s01a s01n s01c, 5, s0.legs.map encLeg⟩, ⟨.slice f01a f01n f01c, 3, f0.nums.map encWay⟩] [] (fun v ch => v = .bool r ∧ ch = []) := by
  refine triple_start 60 Tryd.func22 Tryd.ntmps22 rfl rfl (fun w0 => ?_)
  refine k_len (c := s01c) (fun hl1 => ?_)
  subst hl1
  refine k_len (c := f01c) (fun hl2 => ?_)
  subst hl2
  unfold p_impl_FixValid at h
  refine kwp_seq ?_
  refine kwp_region ?_
  refine kk (n_box (e := [.int .i64 s0.st, .slice s01a s0.legs.length s01c]) 2 (fun p2_3 => ?_))
  refine kk (n_box (e := [.int .i64 f0.den, .slice f01a f0.nums.length f01c]) 2 (fun p3_4 => ?_))
  refine kd (v_as) ?_
  refine kops_nil ?_
  refine kn_then ?_
  refine kwp_seq ?_
  refine kwp_seq ?_
  refine kwp_cutE (inv := [(3, .pointer (some p3_4))]) (fun (z : Bool) (y : Unit) => [(35, .bool z)]) (fun (z : Bool) (y : Unit) => [⟨.pointer (some p3_4), 2, [[.int .i64 f0.den, .slice f01a f0.nums.length f01c]]⟩]) (fun _ _ => True) h ?_ ?_
  · intro t8 h6
    refine kwp_region ?_
    refine kd (v_ldB Tryd.isAgg25 Tryd.sizeOf25) ?_
    obtain ⟨v10, hv9, h6⟩ := e_bind h6
    refine kk (n_call Tryd.call29 (w_impl_SurveyValid s01a s0.legs.length s01c hv9) ?_)
    rintro _ _ ⟨rfl, rfl⟩
    refine kd (v_not) ?_
    refine kd (v_mv) ?_
    refine kops_split 10 rfl (fun hb12 => ?_) (fun hb12 => ?_)
    ·
      replace h6 := e_t h6 hb12
      refine kskip hb12 ?_
      refine kskip hb12 ?_
      refine kskip hb12 ?_
      refine kd (v_pt hb12) ?_
      refine kd (v_mv) ?_
      refine kskip rfl ?_
      refine kskip rfl ?_
      refine kskip rfl ?_
      refine kd (v_pt rfl) ?_
      refine kd (v_mv) ?_
      refine kskip rfl ?_
      refine kskip rfl ?_
      refine kskip rfl ?_
      refine kskip rfl ?_
      refine kskip rfl ?_
      refine kskip rfl ?_
      refine kd (v_pt rfl) ?_
      refine kd (v_mv) ?_
      refine kskip rfl ?_
      refine kskip rfl ?_
      refine kskip rfl ?_
      refine kskip rfl ?_
      refine kskip rfl ?_
      refine kskip rfl ?_
      refine kd (v_pt rfl) ?_
      refine kops_nil ?_
      refine kn_then ?_
      obtain rfl := e_some h6
      exact ⟨(), hd_mk trivial⟩
    ·
      replace h6 := e_f h6 hb12
      refine kgd hb12 (v_fb fa_31_0) ?_
      refine kgd hb12 (v_ldb Tryd.isAgg3) ?_
      refine kgd hb12 (v_cmp) ?_
      refine kd (v_pf hb12) ?_
      refine kd (v_mv) ?_
      refine kops_split 15 rfl (fun hb13 => ?_) (fun hb13 => ?_)
      ·
        replace h6 := e_t h6 hb13
        refine kskip hb13 ?_
        refine kskip hb13 ?_
        refine kskip hb13 ?_
        refine kd (v_pt hb13) ?_
        refine kd (v_mv) ?_
        refine kskip rfl ?_
        refine kskip rfl ?_
        refine kskip rfl ?_
        refine kskip rfl ?_
        refine kskip rfl ?_
        refine kskip rfl ?_
        refine kd (v_pt rfl) ?_
        refine kd (v_mv) ?_
        refine kskip rfl ?_
        refine kskip rfl ?_
        refine kskip rfl ?_
        refine kskip rfl ?_
        refine kskip rfl ?_
        refine kskip rfl ?_
        refine kd (v_pt rfl) ?_
        refine kops_nil ?_
        refine kn_then ?_
        obtain rfl := e_some h6
        exact ⟨(), hd_mk trivial⟩
      ·
        replace h6 := e_f h6 hb13
        refine kgd hb13 (v_fb fa_31_0) ?_
        refine kgd hb13 (v_ldb Tryd.isAgg3) ?_
        refine kgd hb13 (v_cmp) ?_
        refine kd (v_pf hb13) ?_
        refine kd (v_mv) ?_
        refine kops_split 20 rfl (fun hb14 => ?_) (fun hb14 => ?_)
        ·
          replace h6 := e_t h6 hb14
          refine kskip hb14 ?_
          refine kskip hb14 ?_
          refine kskip hb14 ?_
          refine kskip hb14 ?_
          refine kskip hb14 ?_
          refine kskip hb14 ?_
          refine kd (v_pt hb14) ?_
          refine kd (v_mv) ?_
          refine kskip rfl ?_
          refine kskip rfl ?_
          refine kskip rfl ?_
          refine kskip rfl ?_
          refine kskip rfl ?_
          refine kskip rfl ?_
          refine kd (v_pt rfl) ?_
          refine kops_nil ?_
          refine kn_then ?_
          obtain rfl := e_some h6
          exact ⟨(), hd_mk trivial⟩
        ·
          replace h6 := e_f h6 hb14
          refine kgd hb14 (v_fb fa_31_1) ?_
          refine kgd hb14 (v_ldb Tryd.isAgg29) ?_
          refine kgd hb14 (v_len Tryd.runUnderlying29) ?_
          refine kgd hb14 (v_fb fa_25_0) ?_
          refine kgd hb14 (v_ldb Tryd.isAgg3) ?_
          refine kgd hb14 (v_cmp) ?_
          refine kd (v_pf hb14) ?_
          refine kd (v_mv) ?_
          refine kops_split 28 rfl (fun hb15 => ?_) (fun hb15 => ?_)
          ·
            replace h6 := e_t h6 hb15
            refine kskip hb15 ?_
            refine kskip hb15 ?_
            refine kskip hb15 ?_
            refine kskip hb15 ?_
            refine kskip hb15 ?_
            refine kskip hb15 ?_
            refine kd (v_pt hb15) ?_
            refine kops_nil ?_
            refine kn_then ?_
            obtain rfl := e_some h6
            exact ⟨(), hd_mk trivial⟩
          ·
            replace h6 := e_f h6 hb15
            refine kgd hb15 (v_fb fa_31_1) ?_
            refine kgd hb15 (v_ldb Tryd.isAgg29) ?_
            obtain ⟨j16, ej16, nj16, h6⟩ := e_idx h6
            refine kgd hb15 (v_ia ej16 nj16 Tryd.runUnderlying29 Tryd.sizeOf37) ?_
            refine kgd hb15 (v_lda (e := [_, _, _]) nj16 Tryd.isAgg37 Tryd.sizeOf37) ?_
            refine kgd hb15 (v_bd [] [.int .i64 0, .int .i64 0, .int .i64 0] Tryd.zeroValue37 Tryd.runUnderlying37 pl_37) ?_
            refine kgd hb15 (v_nea eg_37 he_37 hp_37 (eqf_37 _ _ _ _ _ _)) ?_
            refine kd (v_pf hb15) ?_
            refine kops_nil ?_
            refine kn_then ?_
            obtain rfl := e_some h6
            exact ⟨(), hd_mk trivial⟩
  · intro x5 y18 _ h19
    refine kn_then ?_
    refine kwp_cond rfl (fun hc20 => ?_) (fun hc20 => ?_)
    ·
      replace h19 := e_t h19 hc20
      refine kwp_seq ?_
      refine kwp_region ?_
      refine kd (v_as) ?_
      refine kops_nil ?_
      refine kn_then ?_
      refine kwp_ret ?_
      refine kr_then ?_
      obtain rfl := e_some h19
      refine r1 [] ?_
      exact ⟨rfl, rfl⟩
    ·
      replace h19 := e_f h19 hc20
      refine kwp_skip ?_
      refine kn_then ?_
      refine kwp_seq ?_
      refine kwp_seq ?_
      refine kwp_region ?_
      refine kd (v_fb fa_31_1) ?_
      refine kd (v_ldb Tryd.isAgg29) ?_
      refine kd (v_len Tryd.runUnderlying29) ?_
      refine kd (v_mv) ?_
      refine kops_nil ?_
      refine kn_then ?_
      refine kwp_cutO (inv := []) (fun (z : Unit) (y : Unit) => []) (fun (z : Unit) (y : Unit) => []) (fun _ _ => True) h19 ?_ ?_
      · intro t23 h21 g22
        refine kwp_block ?_
        refine kwp_loopE (inv := [(37, .slice f01a f0.nums.length f01c), (38, .int .i64 ((f0.nums.length : Nat) : Int))]) (fun (z : Int) (y : Unit) => [(39, .int .i64 z)]) (fun (z : Int) (y : Unit) => []) (fun _ _ => True) h21 ⟨(), hd_mk trivial⟩ ?_
        intro x24 y28 b25 _ h26
        unfold p_impl_FixValid_L0 at h26
        refine kwp_seq ?_
        refine kwp_region ?_
        refine kd (v_cmp) ?_
        refine kops_nil ?_
        refine kn_then ?_
        refine kwp_seq ?_
        refine kwp_cond rfl (fun hc29 => ?_) (fun hc29 => ?_)
        ·
          replace h26 := e_t h26 hc29
          refine kwp_skip ?_
          refine kn_then ?_
          refine kwp_seq ?_
          refine kwp_block ?_
          refine kwp_seq ?_
          refine kwp_region ?_
          obtain ⟨j30, ej30, nj30, h26⟩ := e_idx h26
          refine kd (v_ia ej30 nj30 Tryd.runUnderlying29 Tryd.sizeOf37) ?_
          refine kd (v_lda (e := [_, _, _]) nj30 Tryd.isAgg37 Tryd.sizeOf37) ?_
          refine kk (n_alloc (e := [.int .i64 0, .int .i64 0, .int .i64 0]) 3 Tryd.zeroValue37 (fun p6_31 => ?_))
          refine kk (s_B (e' := [.int .i64 ((gx f0.nums j30).e), .int .i64 ((gx f0.nums j30).n), .int .i64 ((gx f0.nums j30).u)]) Tryd.sizeOf37 ?_)
          refine kops_nil ?_
          refine kn_then ?_
          refine kwp_seq ?_
          refine kwp_region ?_
          refine kd (v_fb fa_37_0) ?_
          refine kd (v_ldb Tryd.isAgg3) ?_
          obtain ⟨v33, hv32, h26⟩ := e_bind h26
          refine kk (n_call Tryd.call77 (w_impl_isWithin hv32) ?_)
          rintro _ _ ⟨rfl, rfl⟩
          refine kd (v_not) ?_
          refine kd (v_mv) ?_
          refine kops_split 47 rfl (fun hb35 => ?_) (fun hb35 => ?_)
          ·
            replace h26 := e_t h26 hb35
            refine kskip hb35 ?_
            refine kskip hb35 ?_
            refine kskip hb35 ?_
            refine kskip hb35 ?_
            refine kd (v_pt hb35) ?_
            refine kd (v_mv) ?_
            refine kskip rfl ?_
            refine kskip rfl ?_
            refine kskip rfl ?_
            refine kskip rfl ?_
            refine kd (v_pt rfl) ?_
            refine kops_nil ?_
            refine kn_then ?_
            refine kwp_cond_t rfl rfl ?_
            refine kwp_seq ?_
            refine kwp_region ?_
            refine kd (v_as) ?_
            refine kops_nil ?_
            refine kn_then ?_
            refine kwp_ret ?_
            refine kr_block ?_
            refine kr_then ?_
            refine kr_then ?_
            obtain rfl := e_some h26
            refine k_out ?_ rfl
            rintro rfl
            refine kr_block ?_
            refine kr_then ?_
            refine kr_then ?_
            obtain rfl := e_some g22
            refine r1 [] ?_
            exact ⟨rfl, rfl⟩
          ·
            replace h26 := e_f h26 hb35
            refine kgd hb35 (v_fb fa_37_1) ?_
            refine kgd hb35 (v_ldb Tryd.isAgg3) ?_
            obtain ⟨v37, hv36, h26⟩ := e_bind h26
            refine kgk hb35 (n_call Tryd.call77 (w_impl_isWithin hv36) ?_)
            rintro _ _ ⟨rfl, rfl⟩
            refine kgd hb35 (v_not) ?_
            refine kd (v_pf hb35) ?_
            refine kd (v_mv) ?_
            refine kops_split 53 rfl (fun hb39 => ?_) (fun hb39 => ?_)
            ·
              replace h26 := e_t h26 hb39
              refine kskip hb39 ?_
              refine kskip hb39 ?_
              refine kskip hb39 ?_
              refine kskip hb39 ?_
              refine kd (v_pt hb39) ?_
              refine kops_nil ?_
              refine kn_then ?_
              refine kwp_cond_t rfl rfl ?_
              refine kwp_seq ?_
              refine kwp_region ?_
              refine kd (v_as) ?_
              refine kops_nil ?_
              refine kn_then ?_
              refine kwp_ret ?_
              refine kr_block ?_
              refine kr_then ?_
              refine kr_then ?_
              obtain rfl := e_some h26
              refine k_out ?_ rfl
              rintro rfl
              refine kr_block ?_
              refine kr_then ?_
              refine kr_then ?_
              obtain rfl := e_some g22
              refine r1 [] ?_
              exact ⟨rfl, rfl⟩
            ·
              replace h26 := e_f h26 hb39
              refine kgd hb39 (v_fb fa_37_2) ?_
              refine kgd hb39 (v_ldb Tryd.isAgg3) ?_
              obtain ⟨v41, hv40, h26⟩ := e_bind h26
              refine kgk hb39 (n_call Tryd.call77 (w_impl_isWithin hv40) ?_)
              rintro _ _ ⟨rfl, rfl⟩
              refine kgd hb39 (v_not) ?_
              refine kd (v_pf hb39) ?_
              refine kops_nil ?_
              refine kn_then ?_
              refine kwp_cond rfl (fun hc43 => ?_) (fun hc43 => ?_)
              ·
                replace h26 := e_t h26 hc43
                refine kwp_seq ?_
                refine kwp_region ?_
                refine kd (v_as) ?_
                refine kops_nil ?_
                refine kn_then ?_
                refine kwp_ret ?_
                refine kr_block ?_
                refine kr_then ?_
                refine kr_then ?_
                obtain rfl := e_some h26
                refine k_out ?_ rfl
                rintro rfl
                refine kr_block ?_
                refine kr_then ?_
                refine kr_then ?_
                obtain rfl := e_some g22
                refine r1 [] ?_
                exact ⟨rfl, rfl⟩
              ·
                replace h26 := e_f h26 hc43
                refine kwp_skip ?_
                refine kn_block ?_
                refine kn_then ?_
                refine kwp_region ?_
                refine kd (v_add) ?_
                refine kd (v_mv) ?_
                refine kops_nil ?_
                refine kn_then ?_
                obtain rfl := e_some h26
                exact ⟨_, (), rfl, hd_mk trivial⟩
        ·
          replace h26 := e_f h26 hc29
          refine kwp_exit ?_
          refine ke_then ?_
          obtain rfl := e_some h26
          refine k_out ?_ rfl
          rintro rfl
          refine ke_block ?_
          exact ⟨_, (), rfl, hd_mk trivial⟩
      · intro z44 y45 _ h46
        refine kn_then ?_
        refine kwp_seq ?_
        refine kwp_region ?_
        refine kd (v_as) ?_
        refine kops_nil ?_
        refine kn_then ?_
        refine kwp_ret ?_
        obtain rfl := e_some h46
        refine r1 [] ?_
        exact ⟨rfl, rfl⟩

set_option maxRecDepth 20000 in
set_option maxHeartbeats 2000000 in
theorem w_spec_FixValid (s01a : Option Addr) (s01n : Nat) (s01c : Nat) (f01a : Option Addr) (f01n : Nat) (f01c : Nat) {s0 : Survey} {f0 : Fix} {r : Bool} (h : p_spec_FixValid s0 f0 = some r) :
    Triple Tryd.prog 45 [.agg #[.int .i64 s0.st, .slice s01a s01n s01c], .agg #[.int .i64 f0.den, .slice f01a f01n f01c]] [⟨.slice s01a s01n s01c, 5, s0.legs.map encLeg⟩, ⟨.slice f01a f01n f01c, 3, f0.nums.map encWay⟩] [] (fun v ch => v = .bool r ∧ ch = []) := by
  refine triple_start 60 Tryd.func45 Tryd.ntmps45 rfl rfl (fun w0 => ?_)
  refine k_len (c := s01c) (fun hl1 => ?_)
  subst hl1
  refine k_len (c := f01c) (fun hl2 => ?_)
  subst hl2
  unfold p_spec_FixValid at h
  refine kwp_seq ?_
  refine kwp_region ?_
  refine kk (n_box (e := [.int .i64 s0.st, .slice s01a s0.legs.length s01c]) 2 (fun p2_3 => ?_))
  refine kk (n_box (e := [.int .i64 f0.den, .slice f01a f0.nums.length f01c]) 2 (fun p3_4 => ?_))
  refine kd (v_as) ?_
  refine kops_nil ?_
  refine kn_then ?_
  refine kwp_seq ?_
  refine kwp_seq ?_
  refine kwp_cutE (inv := [(3, .pointer (some p3_4))]) (fun (z : Bool) (y : Unit) => [(31, .bool z)]) (fun (z : Bool) (y : Unit) => [⟨.pointer (some p3_4), 2, [[.int .i64 f0.den, .slice f01a f0.nums.length f01c]]⟩]) (fun _ _ => True) h ?_ ?_
  · intro t8 h6
    refine kwp_region ?_
    refine kd (v_ldB Tryd.isAgg25 Tryd.sizeOf25) ?_
    obtain ⟨v10, hv9, h6⟩ := e_bind h6
    refine kk (n_call Tryd.call39 (w_spec_SurveyValid s01a s0.legs.length s01c hv9) ?_)
    rintro _ _ ⟨rfl, rfl⟩
    refine kd (v_not) ?_
    refine kd (v_mv) ?_
    refine kops_split 10 rfl (fun hb12 => ?_) (fun hb12 => ?_)
    ·
      replace h6 := e_t h6 hb12
      refine kskip hb12 ?_
      refine kskip hb12 ?_
      refine kskip hb12 ?_
      refine kskip hb12 ?_
      refine kd (v_pt hb12) ?_
      refine kd (v_mv) ?_
      refine kskip rfl ?_
      refine kskip rfl ?_
      refine kskip rfl ?_
      refine kskip rfl ?_
      refine kskip rfl ?_
      refine kskip rfl ?_
      refine kd (v_pt rfl) ?_
      refine kd (v_mv) ?_
      refine kskip rfl ?_
      refine kskip rfl ?_
      refine kskip rfl ?_
      refine kskip rfl ?_
      refine kskip rfl ?_
      refine kskip rfl ?_
      refine kd (v_pt rfl) ?_
      refine kops_nil ?_
      refine kn_then ?_
      obtain rfl := e_some h6
      exact ⟨(), hd_mk trivial⟩
    ·
      replace h6 := e_f h6 hb12
      refine kgd hb12 (v_fb fa_31_0) ?_
      refine kgd hb12 (v_ldb Tryd.isAgg3) ?_
      obtain ⟨v14, hv13, h6⟩ := e_bind h6
      refine kgk hb12 (n_call Tryd.call88 (w_spec_l1In hv13) ?_)
      rintro _ _ ⟨rfl, rfl⟩
      refine kgd hb12 (v_not) ?_
      refine kd (v_pf hb12) ?_
      refine kd (v_mv) ?_
      refine kops_split 16 rfl (fun hb16 => ?_) (fun hb16 => ?_)
      ·
        replace h6 := e_t h6 hb16
        refine kskip hb16 ?_
        refine kskip hb16 ?_
        refine kskip hb16 ?_
        refine kskip hb16 ?_
        refine kskip hb16 ?_
        refine kskip hb16 ?_
        refine kd (v_pt hb16) ?_
        refine kd (v_mv) ?_
        refine kskip rfl ?_
        refine kskip rfl ?_
        refine kskip rfl ?_
        refine kskip rfl ?_
        refine kskip rfl ?_
        refine kskip rfl ?_
        refine kd (v_pt rfl) ?_
        refine kops_nil ?_
        refine kn_then ?_
        obtain rfl := e_some h6
        exact ⟨(), hd_mk trivial⟩
      ·
        replace h6 := e_f h6 hb16
        refine kgd hb16 (v_fb fa_31_1) ?_
        refine kgd hb16 (v_ldb Tryd.isAgg29) ?_
        refine kgd hb16 (v_len Tryd.runUnderlying29) ?_
        refine kgd hb16 (v_fb fa_25_0) ?_
        refine kgd hb16 (v_ldb Tryd.isAgg3) ?_
        refine kgd hb16 (v_cmp) ?_
        refine kd (v_pf hb16) ?_
        refine kd (v_mv) ?_
        refine kops_split 24 rfl (fun hb17 => ?_) (fun hb17 => ?_)
        ·
          replace h6 := e_t h6 hb17
          refine kskip hb17 ?_
          refine kskip hb17 ?_
          refine kskip hb17 ?_
          refine kskip hb17 ?_
          refine kskip hb17 ?_
          refine kskip hb17 ?_
          refine kd (v_pt hb17) ?_
          refine kops_nil ?_
          refine kn_then ?_
          obtain rfl := e_some h6
          exact ⟨(), hd_mk trivial⟩
        ·
          replace h6 := e_f h6 hb17
          refine kgd hb17 (v_fb fa_31_1) ?_
          refine kgd hb17 (v_ldb Tryd.isAgg29) ?_
          obtain ⟨j18, ej18, nj18, h6⟩ := e_idx h6
          refine kgd hb17 (v_ia ej18 nj18 Tryd.runUnderlying29 Tryd.sizeOf37) ?_
          refine kgd hb17 (v_lda (e := [_, _, _]) nj18 Tryd.isAgg37 Tryd.sizeOf37) ?_
          refine kgd hb17 (v_bd [] [.int .i64 0, .int .i64 0, .int .i64 0] Tryd.zeroValue37 Tryd.runUnderlying37 pl_37) ?_
          refine kgd hb17 (v_nea eg_37 he_37 hp_37 (eqf_37 _ _ _ _ _ _)) ?_
          refine kd (v_pf hb17) ?_
          refine kops_nil ?_
          refine kn_then ?_
          obtain rfl := e_some h6
          exact ⟨(), hd_mk trivial⟩
  · intro x5 y20 _ h21
    refine kn_then ?_
    refine kwp_cond rfl (fun hc22 => ?_) (fun hc22 => ?_)
    ·
      replace h21 := e_t h21 hc22
      refine kwp_seq ?_
      refine kwp_region ?_
      refine kd (v_as) ?_
      refine kops_nil ?_
      refine kn_then ?_
      refine kwp_ret ?_
      refine kr_then ?_
      obtain rfl := e_some h21
      refine r1 [] ?_
      exact ⟨rfl, rfl⟩
    ·
      replace h21 := e_f h21 hc22
      refine kwp_skip ?_
      refine kn_then ?_
      refine kwp_seq ?_
      refine kwp_seq ?_
      refine kwp_region ?_
      refine kd (v_as) ?_
      refine kops_nil ?_
      refine kn_then ?_
      refine kwp_cutO (inv := []) (fun (z : Unit) (y : Unit) => []) (fun (z : Unit) (y : Unit) => []) (fun _ _ => True) h21 ?_ ?_
      · intro t25 h23 g24
        refine kwp_block ?_
        refine kwp_loopE (inv := [(3, .pointer (some p3_4))]) (fun (z : Int) (y : Unit) => [(5, .int .i64 z)]) (fun (z : Int) (y : Unit) => [⟨.pointer (some p3_4), 2, [[.int .i64 f0.den, .slice f01a f0.nums.length f01c]]⟩]) (fun _ _ => True) h23 ⟨(), hd_mk trivial⟩ ?_
        intro k26 y30 b27 _ h28
        unfold p_spec_FixValid_L0 at h28
        refine kwp_seq ?_
        refine kwp_seq ?_
        refine kwp_region ?_
        refine kd (v_mv) ?_
        refine kd (v_fb fa_31_1) ?_
        refine kd (v_ldb Tryd.isAgg29) ?_
        refine kd (v_len Tryd.runUnderlying29) ?_
        refine kd (v_cmp) ?_
        refine kops_nil ?_
        refine kn_then ?_
        refine kwp_cond rfl (fun hc31 => ?_) (fun hc31 => ?_)
        ·
          replace h28 := e_t h28 hc31
          refine kwp_skip ?_
          refine kn_then ?_
          refine kwp_seq ?_
          refine kwp_block ?_
          refine kwp_seq ?_
          refine kwp_region ?_
          refine kd (v_fb fa_31_1) ?_
          refine kd (v_ldb Tryd.isAgg29) ?_
          refine kd (v_mv) ?_
          obtain ⟨j32, ej32, nj32, h28⟩ := e_idx h28
          refine kd (v_ia ej32 nj32 Tryd.runUnderlying29 Tryd.sizeOf37) ?_
          refine kd (v_lda (e := [_, _, _]) nj32 Tryd.isAgg37 Tryd.sizeOf37) ?_
          refine kk (n_alloc (e := [.int .i64 0, .int .i64 0, .int .i64 0]) 3 Tryd.zeroValue37 (fun p6_33 => ?_))
          refine kk (s_B (e' := [.int .i64 ((gx f0.nums j32).e), .int .i64 ((gx f0.nums j32).n), .int .i64 ((gx f0.nums j32).u)]) Tryd.sizeOf37 ?_)
          refine kops_nil ?_
          refine kn_then ?_
          refine kwp_seq ?_
          refine kwp_region ?_
          refine kd (v_fb fa_37_0) ?_
          refine kd (v_ldb Tryd.isAgg3) ?_
          obtain ⟨v35, hv34, h28⟩ := e_bind h28
          refine kk (n_call Tryd.call88 (w_spec_l1In hv34) ?_)
          rintro _ _ ⟨rfl, rfl⟩
          refine kd (v_not) ?_
          refine kd (v_mv) ?_
          refine kops_split 48 rfl (fun hb37 => ?_) (fun hb37 => ?_)
          ·
            replace h28 := e_t h28 hb37
            refine kskip hb37 ?_
            refine kskip hb37 ?_
            refine kskip hb37 ?_
            refine kskip hb37 ?_
            refine kd (v_pt hb37) ?_
            refine kd (v_mv) ?_
            refine kskip rfl ?_
            refine kskip rfl ?_
            refine kskip rfl ?_
            refine kskip rfl ?_
            refine kd (v_pt rfl) ?_
            refine kops_nil ?_
            refine kn_then ?_
            refine kwp_cond_t rfl rfl ?_
            refine kwp_seq ?_
            refine kwp_region ?_
            refine kd (v_as) ?_
            refine kops_nil ?_
            refine kn_then ?_
            refine kwp_ret ?_
            refine kr_block ?_
            refine kr_then ?_
            refine kr_then ?_
            obtain rfl := e_some h28
            refine k_out ?_ rfl
            rintro rfl
            refine kr_block ?_
            refine kr_then ?_
            refine kr_then ?_
            obtain rfl := e_some g24
            refine r1 [] ?_
            exact ⟨rfl, rfl⟩
          ·
            replace h28 := e_f h28 hb37
            refine kgd hb37 (v_fb fa_37_1) ?_
            refine kgd hb37 (v_ldb Tryd.isAgg3) ?_
            obtain ⟨v39, hv38, h28⟩ := e_bind h28
            refine kgk hb37 (n_call Tryd.call88 (w_spec_l1In hv38) ?_)
            rintro _ _ ⟨rfl, rfl⟩
            refine kgd hb37 (v_not) ?_
            refine kd (v_pf hb37) ?_
            refine kd (v_mv) ?_
            refine kops_split 54 rfl (fun hb41 => ?_) (fun hb41 => ?_)
            ·
              replace h28 := e_t h28 hb41
              refine kskip hb41 ?_
              refine kskip hb41 ?_
              refine kskip hb41 ?_
              refine kskip hb41 ?_
              refine kd (v_pt hb41) ?_
              refine kops_nil ?_
              refine kn_then ?_
              refine kwp_cond_t rfl rfl ?_
              refine kwp_seq ?_
              refine kwp_region ?_
              refine kd (v_as) ?_
              refine kops_nil ?_
              refine kn_then ?_
              refine kwp_ret ?_
              refine kr_block ?_
              refine kr_then ?_
              refine kr_then ?_
              obtain rfl := e_some h28
              refine k_out ?_ rfl
              rintro rfl
              refine kr_block ?_
              refine kr_then ?_
              refine kr_then ?_
              obtain rfl := e_some g24
              refine r1 [] ?_
              exact ⟨rfl, rfl⟩
            ·
              replace h28 := e_f h28 hb41
              refine kgd hb41 (v_fb fa_37_2) ?_
              refine kgd hb41 (v_ldb Tryd.isAgg3) ?_
              obtain ⟨v43, hv42, h28⟩ := e_bind h28
              refine kgk hb41 (n_call Tryd.call88 (w_spec_l1In hv42) ?_)
              rintro _ _ ⟨rfl, rfl⟩
              refine kgd hb41 (v_not) ?_
              refine kd (v_pf hb41) ?_
              refine kops_nil ?_
              refine kn_then ?_
              refine kwp_cond rfl (fun hc45 => ?_) (fun hc45 => ?_)
              ·
                replace h28 := e_t h28 hc45
                refine kwp_seq ?_
                refine kwp_region ?_
                refine kd (v_as) ?_
                refine kops_nil ?_
                refine kn_then ?_
                refine kwp_ret ?_
                refine kr_block ?_
                refine kr_then ?_
                refine kr_then ?_
                obtain rfl := e_some h28
                refine k_out ?_ rfl
                rintro rfl
                refine kr_block ?_
                refine kr_then ?_
                refine kr_then ?_
                obtain rfl := e_some g24
                refine r1 [] ?_
                exact ⟨rfl, rfl⟩
              ·
                replace h28 := e_f h28 hc45
                refine kwp_skip ?_
                refine kn_block ?_
                refine kn_then ?_
                refine kwp_region ?_
                refine kd (v_mv) ?_
                refine kd (v_add) ?_
                refine kd (v_as) ?_
                refine kops_nil ?_
                refine kn_then ?_
                obtain rfl := e_some h28
                exact ⟨_, (), rfl, hd_mk trivial⟩
        ·
          replace h28 := e_f h28 hc31
          refine kwp_exit ?_
          refine ke_then ?_
          obtain rfl := e_some h28
          refine k_out ?_ rfl
          rintro rfl
          refine ke_block ?_
          exact ⟨_, (), rfl, hd_mk trivial⟩
      · intro z46 y47 _ h48
        refine kn_then ?_
        refine kwp_seq ?_
        refine kwp_region ?_
        refine kd (v_as) ?_
        refine kops_nil ?_
        refine kn_then ?_
        refine kwp_ret ?_
        obtain rfl := e_some h48
        refine r1 [] ?_
        exact ⟨rfl, rfl⟩

end Go.Proofs.YtnibfmofkamjoaaDoor
