/- What the plain programs return, the functions of the program return; no condition. -/
import Derived.Test.YtnibfmofkamjoaaDoorZQ
import Derived.Test.YtnibfmofkamjoaaDoorZFa
namespace Go.Proofs.YtnibfmofkamjoaaDoor
open Go
set_option linter.unusedVariables false
set_option linter.unusedSimpArgs false

set_option maxRecDepth 20000 in
theorem w_laws_sameInts (a0a : Option Addr) (a0n : Nat) (a0c : Nat) (b0a : Option Addr) (b0n : Nat) (b0c : Nat) {a0 : List Int} {b0 : List Int} {r : Bool} (h : p_laws_sameInts a0 b0 = some r) :
    Triple Tryd.prog 50 [.slice a0a a0n a0c, .slice b0a b0n b0c] [⟨.slice a0a a0n a0c, 1, a0.map encI⟩, ⟨.slice b0a b0n b0c, 1, b0.map encI⟩] [] (fun v ch => v = .bool r ∧ ch = []) := by
  refine triple_start 26 Tryd.func50 Tryd.ntmps50 rfl rfl (fun w0 => ?_)
  refine k_len (c := a0c) (fun hl1 => ?_)
  subst hl1
  refine k_len (c := b0c) (fun hl2 => ?_)
  subst hl2
  unfold p_laws_sameInts at h
  refine kwp_seq ?_
  refine kwp_region ?_
  refine kd (v_as) ?_
  refine kops_nil ?_
  refine kn_then ?_
  refine kwp_seq ?_
  refine kwp_seq ?_
  refine kwp_region ?_
  refine kd (v_mv) ?_
  refine kd (v_len Tryd.runUnderlying26) ?_
  refine kd (v_mv) ?_
  refine kd (v_len Tryd.runUnderlying26) ?_
  refine kd (v_cmp) ?_
  refine kops_nil ?_
  refine kn_then ?_
  refine kwp_cond rfl (fun hc3 => ?_) (fun hc3 => ?_)
  ·
    replace h := e_t h hc3
    refine kwp_seq ?_
    refine kwp_region ?_
    refine kd (v_as) ?_
    refine kops_nil ?_
    refine kn_then ?_
    refine kwp_ret ?_
    refine kr_then ?_
    obtain rfl := e_some h
    refine r1 [] ?_
    exact ⟨rfl, rfl⟩
  ·
    replace h := e_f h hc3
    refine kwp_skip ?_
    refine kn_then ?_
    refine kwp_seq ?_
    refine kwp_seq ?_
    refine kwp_region ?_
    refine kd (v_as) ?_
    refine kops_nil ?_
    refine kn_then ?_
    refine kwp_cutO (inv := []) (fun (z : Unit) (y : Unit) => []) (fun (z : Unit) (y : Unit) => []) (fun _ _ => True) h ?_ ?_
    · intro t6 h4 g5
      refine kwp_block ?_
      refine kwp_loopE (inv := [(0, .slice a0a a0.length a0c), (1, .slice b0a b0.length b0c)]) (fun (z : Int) (y : Unit) => [(5, .int .i64 z)]) (fun (z : Int) (y : Unit) => []) (fun _ _ => True) h4 ⟨(), hd_mk trivial⟩ ?_
      intro i7 y11 b8 _ h9
      unfold p_laws_sameInts_L0 at h9
      refine kwp_seq ?_
      refine kwp_seq ?_
      refine kwp_region ?_
      refine kd (v_mv) ?_
      refine kd (v_mv) ?_
      refine kd (v_len Tryd.runUnderlying26) ?_
      refine kd (v_cmp) ?_
      refine kops_nil ?_
      refine kn_then ?_
      refine kwp_cond rfl (fun hc12 => ?_) (fun hc12 => ?_)
      ·
        replace h9 := e_t h9 hc12
        refine kwp_skip ?_
        refine kn_then ?_
        refine kwp_seq ?_
        refine kwp_block ?_
        refine kwp_seq ?_
        obtain ⟨j13, ej13, nj13, h9⟩ := e_idx h9
        obtain ⟨j14, ej14, nj14, h9⟩ := e_idx h9
        refine kwp_tree (.quiet 0 (.quiet 1 (.quiet 2 (.quiet 3 (.quiet 4 (.quiet 5 (.quiet 6 (.quiet 7 (.quiet 8 .stop))))))))) [] [] drawMixed (by kernel_rfl) nopan (by (repeat (first | exact Sub.refl _ | exact Sub.nil _ | refine Sub.chunk (by repeat (first | exact Pick.here | apply Pick.there | apply Pick.seg)) (by rfl) ?_ | refine Sub.seg (by repeat (first | exact PickSeg.here | exact PickSeg.all | apply PickSeg.there | apply PickSeg.seg)) ?_ | exact Sub.seg0 (by repeat (first | exact PickSeg.here | exact PickSeg.all | apply PickSeg.there | apply PickSeg.seg)) | apply Sub.assoc))) ?_
        refine kt_d rfl rfl rfl (v_mv) ?_
        refine kt_d rfl rfl rfl (v_mv) ?_
        refine kt_d rfl rfl rfl (v_ia ej13 nj13 Tryd.runUnderlying26 Tryd.sizeOf3) ?_
        refine kt_d rfl rfl rfl (v_ldf nj13 Tryd.isAgg3) ?_
        refine kt_d rfl rfl rfl (v_mv) ?_
        refine kt_d rfl rfl rfl (v_mv) ?_
        refine kt_d rfl rfl rfl (v_ia ej14 nj14 Tryd.runUnderlying26 Tryd.sizeOf3) ?_
        refine kt_d rfl rfl rfl (v_ldf nj14 Tryd.isAgg3) ?_
        refine kt_d rfl rfl rfl (v_cmp) ?_
        refine kt_nil ?_
        refine kn_then ?_
        refine kwp_cond rfl (fun hc15 => ?_) (fun hc15 => ?_)
        ·
          replace h9 := e_t h9 hc15
          refine kwp_seq ?_
          refine kwp_region ?_
          refine kd (v_as) ?_
          refine kops_nil ?_
          refine kn_then ?_
          refine kwp_ret ?_
          refine kr_block ?_
          refine kr_then ?_
          refine kr_then ?_
          obtain rfl := e_some h9
          refine k_out ?_ rfl
          rintro rfl
          refine kr_block ?_
          refine kr_then ?_
          refine kr_then ?_
          obtain rfl := e_some g5
          refine r1 [] ?_
          exact ⟨rfl, rfl⟩
        ·
          replace h9 := e_f h9 hc15
          refine kwp_skip ?_
          refine kn_block ?_
          refine kn_then ?_
          refine kwp_region ?_
          refine kd (v_mv) ?_
          refine kd (v_add) ?_
          refine kd (v_as) ?_
          refine kops_nil ?_
          refine kn_then ?_
          obtain rfl := e_some h9
          exact ⟨_, (), rfl, hd_mk trivial⟩
      ·
        replace h9 := e_f h9 hc12
        refine kwp_exit ?_
        refine ke_then ?_
        obtain rfl := e_some h9
        refine k_out ?_ rfl
        rintro rfl
        refine ke_block ?_
        exact ⟨_, (), rfl, hd_mk trivial⟩
    · intro z16 y17 _ h18
      refine kn_then ?_
      refine kwp_seq ?_
      refine kwp_region ?_
      refine kd (v_as) ?_
      refine kops_nil ?_
      refine kn_then ?_
      refine kwp_ret ?_
      obtain rfl := e_some h18
      refine r1 [] ?_
      exact ⟨rfl, rfl⟩

set_option maxRecDepth 20000 in
theorem w_laws_sameLists (a0a : Option Addr) (a0n : Nat) (a0c : Nat) (a0R : List Row) (b0a : Option Addr) (b0n : Nat) (b0c : Nat) (b0R : List Row) {a0 : List (List Int)} {b0 : List (List Int)} (ha0R : nums a0R = a0) (hb0R : nums b0R = b0) {r : Bool} (h : p_laws_sameLists a0 b0 = some r) :
    Triple Tryd.prog 37 [.slice a0a a0n a0c, .slice b0a b0n b0c] (⟨.slice a0a a0n a0c, 1, a0R.map encRow⟩ :: ⟨.slice b0a b0n b0c, 1, b0R.map encRow⟩ :: (rowsC a0R ++ (rowsC b0R))) [] (fun v ch => v = .bool r ∧ ch = []) := by
  refine triple_start 27 Tryd.func37 Tryd.ntmps37 rfl rfl (fun w0 => ?_)
  refine k_lenM (c := a0c) (m := a0) ha0R (fun hl1 => ?_)
  subst hl1
  refine k_lenM (c := b0c) (m := b0) hb0R (fun hl2 => ?_)
  subst hl2
  unfold p_laws_sameLists at h
  refine kwp_seq ?_
  refine kwp_region ?_
  refine kd (v_as) ?_
  refine kops_nil ?_
  refine kn_then ?_
  refine kwp_seq ?_
  refine kwp_seq ?_
  refine kwp_region ?_
  refine kd (v_mv) ?_
  refine kd (v_len Tryd.runUnderlying51) ?_
  refine kd (v_mv) ?_
  refine kd (v_len Tryd.runUnderlying51) ?_
  refine kd (v_cmp) ?_
  refine kops_nil ?_
  refine kn_then ?_
  refine kwp_cond rfl (fun hc3 => ?_) (fun hc3 => ?_)
  ·
    replace h := e_t h hc3
    refine kwp_seq ?_
    refine kwp_region ?_
    refine kd (v_as) ?_
    refine kops_nil ?_
    refine kn_then ?_
    refine kwp_ret ?_
    refine kr_then ?_
    obtain rfl := e_some h
    refine r1 [] ?_
    exact ⟨rfl, rfl⟩
  ·
    replace h := e_f h hc3
    refine kwp_skip ?_
    refine kn_then ?_
    refine kwp_seq ?_
    refine kwp_seq ?_
    refine kwp_region ?_
    refine kd (v_as) ?_
    refine kops_nil ?_
    refine kn_then ?_
    refine kwp_cutO (inv := []) (fun (z : Unit) (y : Unit) => []) (fun (z : Unit) (y : Unit) => []) (fun _ _ => True) h ?_ ?_
    · intro t6 h4 g5
      refine kwp_block ?_
      refine kwp_loopE (inv := [(0, .slice a0a a0.length a0c), (1, .slice b0a b0.length b0c)]) (fun (z : Int) (y : Unit) => [(5, .int .i64 z)]) (fun (z : Int) (y : Unit) => []) (fun _ _ => True) h4 ⟨(), hd_mk trivial⟩ ?_
      intro i7 y11 b8 _ h9
      unfold p_laws_sameLists_L0 at h9
      refine kwp_seq ?_
      refine kwp_seq ?_
      refine kwp_region ?_
      refine kd (v_mv) ?_
      refine kd (v_mv) ?_
      refine kd (v_len Tryd.runUnderlying51) ?_
      refine kd (v_cmp) ?_
      refine kops_nil ?_
      refine kn_then ?_
      refine kwp_cond rfl (fun hc12 => ?_) (fun hc12 => ?_)
      ·
        replace h9 := e_t h9 hc12
        refine kwp_skip ?_
        refine kn_then ?_
        refine kwp_seq ?_
        refine kwp_block ?_
        refine kwp_seq ?_
        obtain ⟨j13, ej13, nj13, h9⟩ := e_idx h9
        obtain ⟨j14, ej14, nj14, h9⟩ := e_idx h9
        obtain ⟨v16, hv15, h9⟩ := e_bind h9
        refine kwp_tree (.quiet 0 (.quiet 1 (.quiet 2 (.quiet 3 (.quiet 4 (.quiet 5 (.quiet 6 (.quiet 7 (.one 8 (.quiet 9 .stop)))))))))) [] [] drawMixed (by kernel_rfl) nopan (by (repeat (first | exact Sub.refl _ | exact Sub.nil _ | refine Sub.chunk (by repeat (first | exact Pick.here | apply Pick.there | apply Pick.seg)) (by rfl) ?_ | refine Sub.seg (by repeat (first | exact PickSeg.here | exact PickSeg.all | apply PickSeg.there | apply PickSeg.seg)) ?_ | exact Sub.seg0 (by repeat (first | exact PickSeg.here | exact PickSeg.all | apply PickSeg.there | apply PickSeg.seg)) | apply Sub.assoc))) ?_
        refine kt_d rfl rfl rfl (v_mv) ?_
        refine kt_d rfl rfl rfl (v_mv) ?_
        refine kt_d rfl rfl rfl (v_ia ej13 nj13 Tryd.runUnderlying51 Tryd.sizeOf26) ?_
        refine kt_d rfl rfl rfl (v_ldr nj13 ha0R Tryd.isAgg26) ?_
        refine kt_d rfl rfl rfl (v_mv) ?_
        refine kt_d rfl rfl rfl (v_mv) ?_
        refine kt_d rfl rfl rfl (v_ia ej14 nj14 Tryd.runUnderlying51 Tryd.sizeOf26) ?_
        refine kt_d rfl rfl rfl (v_ldr nj14 hb0R Tryd.isAgg26) ?_
        refine kt_one ?_
        refine kl_k rfl rfl (n_call Tryd.call50 (w_laws_sameInts ((gx a0R j13).a) ((gx a0 j13).length) ((gx a0R j13).c) ((gx b0R j14).a) ((gx b0 j14).length) ((gx b0R j14).c) hv15) ?_ (hv := (Views.cons (by repeat (first | exact mr ha0R (by first | exact nj13 | (simpa using nj13) | omega | (simp only [List.length_set]; omega)) | exact mr0 ha0R (by first | exact nj13 | (simpa using nj13) | omega | (simp only [List.length_set]; omega)) | apply mt | apply mas | apply ms)) (View.refl _) (Views.cons (by repeat (first | exact mr hb0R (by first | exact nj14 | (simpa using nj14) | omega | (simp only [List.length_set]; omega)) | exact mr0 hb0R (by first | exact nj14 | (simpa using nj14) | omega | (simp only [List.length_set]; omega)) | apply mt | apply mas | apply ms)) (View.refl _) (Views.nil _)))))
        rintro _ _ ⟨rfl, rfl⟩
        refine ⟨.inl (by (repeat (first | exact Sub.refl _ | exact Sub.nil _ | refine Sub.chunk (by repeat (first | exact Pick.here | apply Pick.there | apply Pick.seg)) (by rfl) ?_ | refine Sub.seg (by repeat (first | exact PickSeg.here | exact PickSeg.all | apply PickSeg.there | apply PickSeg.seg)) ?_ | exact Sub.seg0 (by repeat (first | exact PickSeg.here | exact PickSeg.all | apply PickSeg.there | apply PickSeg.seg)) | apply Sub.assoc))), ?_⟩
        refine kt_d rfl rfl rfl (v_not) ?_
        refine kt_nil ?_
        refine kn_then ?_
        refine kwp_cond rfl (fun hc18 => ?_) (fun hc18 => ?_)
        ·
          replace h9 := e_t h9 hc18
          refine kwp_seq ?_
          refine kwp_region ?_
          refine kd (v_as) ?_
          refine kops_nil ?_
          refine kn_then ?_
          refine kwp_ret ?_
          refine kr_block ?_
          refine kr_then ?_
          refine kr_then ?_
          obtain rfl := e_some h9
          refine k_out ?_ rfl
          rintro rfl
          refine kr_block ?_
          refine kr_then ?_
          refine kr_then ?_
          obtain rfl := e_some g5
          refine r1 [] ?_
          exact ⟨rfl, rfl⟩
        ·
          replace h9 := e_f h9 hc18
          refine kwp_skip ?_
          refine kn_block ?_
          refine kn_then ?_
          refine kwp_region ?_
          refine kd (v_mv) ?_
          refine kd (v_add) ?_
          refine kd (v_as) ?_
          refine kops_nil ?_
          refine kn_then ?_
          obtain rfl := e_some h9
          exact ⟨_, (), rfl, hd_mk trivial⟩
      ·
        replace h9 := e_f h9 hc12
        refine kwp_exit ?_
        refine ke_then ?_
        obtain rfl := e_some h9
        refine k_out ?_ rfl
        rintro rfl
        refine ke_block ?_
        exact ⟨_, (), rfl, hd_mk trivial⟩
    · intro z19 y20 _ h21
      refine kn_then ?_
      refine kwp_seq ?_
      refine kwp_region ?_
      refine kd (v_as) ?_
      refine kops_nil ?_
      refine kn_then ?_
      refine kwp_ret ?_
      obtain rfl := e_some h21
      refine r1 [] ?_
      exact ⟨rfl, rfl⟩

end Go.Proofs.YtnibfmofkamjoaaDoor
