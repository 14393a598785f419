/- What the plain programs return, the functions of the program return; no condition. -/
import Derived.Test.YtkedammjdldloaaQen
import Derived.Test.YtkedammjdldloaaFa
import Derived.Test.YtkedammjdldloaaVei
namespace Go.Proofs.Ytkedammjdldloaa
open Go
set_option linter.unusedVariables false
set_option linter.unusedSimpArgs false

set_option maxRecDepth 20000 in
theorem w_laws_eqIntSS (a0a : Option Addr) (a0n : Nat) (a0c : Nat) (a0R : List Row) (b0a : Option Addr) (b0n : Nat) (b0c : Nat) (b0R : List Row) {a0 : List (List Int)} {b0 : List (List Int)} (ha0R : nums a0R = a0) (hb0R : nums b0R = b0) {r : Bool} (h : p_laws_eqIntSS a0 b0 = some r) :
    Triple Try.prog 24 [.slice a0a a0n a0c, .slice b0a b0n b0c] (⟨.slice a0a a0n a0c, 1, a0R.map encRow⟩ :: ⟨.slice b0a b0n b0c, 1, b0R.map encRow⟩ :: (rowsC a0R ++ rowsC b0R)) [] (fun v ch => v = .bool r ∧ ch = []) := by
  refine triple_start 27 Try.func24 Try.ntmps24 rfl rfl (fun w0 => ?_)
  refine k_lenM (c := a0c) (m := a0) ha0R (fun hl1 => ?_)
  subst hl1
  refine k_lenM (c := b0c) (m := b0) hb0R (fun hl2 => ?_)
  subst hl2
  unfold p_laws_eqIntSS at h
  refine kwp_seq ?_
  refine kwp_region ?_
  refine kd (v_as) ?_
  refine kops_nil ?_
  refine kn_then ?_
  refine kwp_seq ?_
  refine kwp_seq ?_
  refine kwp_region ?_
  refine kd (v_mv) ?_
  refine kd (v_len Try.runUnderlying39) ?_
  refine kd (v_mv) ?_
  refine kd (v_len Try.runUnderlying39) ?_
  refine kd (v_cmp) ?_
  refine kops_nil ?_
  refine kn_then ?_
  refine kwp_cond rfl (fun hc3 => ?_) (fun hc3 => ?_)
  ·
    replace h := e_t h hc3
    refine kwp_seq ?_
    refine kwp_region ?_
    refine kd (v_as) ?_
    refine kops_nil ?_
    refine kn_then ?_
    refine kwp_ret ?_
    refine kr_then ?_
    obtain rfl := e_some h
    refine r1 [] ?_
    exact ⟨rfl, rfl⟩
  ·
    replace h := e_f h hc3
    refine kwp_skip ?_
    refine kn_then ?_
    refine kwp_seq ?_
    refine kwp_seq ?_
    refine kwp_region ?_
    refine kd (v_as) ?_
    refine kops_nil ?_
    refine kn_then ?_
    refine kwp_cutO (inv := []) (fun (z : Unit) (y : Unit) => []) (fun (z : Unit) (y : Unit) => []) (fun _ _ => True) h ?_ ?_
    · intro t6 h4 g5
      refine kwp_block ?_
      refine kwp_loopE (inv := [(0, .slice a0a a0.length a0c), (1, .slice b0a b0.length b0c)]) (fun (z : Int) (y : Unit) => [(5, .int .i64 z)]) (fun (z : Int) (y : Unit) => []) (fun _ _ => True) h4 ⟨(), hd_mk trivial⟩ ?_
      intro i7 y11 b8 _ h9
      unfold p_laws_eqIntSS_L0 at h9
      refine kwp_seq ?_
      refine kwp_seq ?_
      refine kwp_region ?_
      refine kd (v_mv) ?_
      refine kd (v_mv) ?_
      refine kd (v_len Try.runUnderlying39) ?_
      refine kd (v_cmp) ?_
      refine kops_nil ?_
      refine kn_then ?_
      refine kwp_cond rfl (fun hc12 => ?_) (fun hc12 => ?_)
      ·
        replace h9 := e_t h9 hc12
        refine kwp_skip ?_
        refine kn_then ?_
        refine kwp_seq ?_
        refine kwp_block ?_
        refine kwp_seq ?_
        obtain ⟨j13, ej13, nj13, h9⟩ := e_idx h9
        obtain ⟨j14, ej14, nj14, h9⟩ := e_idx h9
        obtain ⟨v16, hv15, h9⟩ := e_bind h9
        refine kwp_tree (.quiet 0 (.quiet 1 (.quiet 2 (.quiet 3 (.quiet 4 (.quiet 5 (.quiet 6 (.quiet 7 (.one 8 (.quiet 9 .stop)))))))))) [] [] drawMixed (by kernel_rfl) nopan (by (repeat (first | exact Sub.refl _ | exact Sub.nil _ | refine Sub.chunk (by repeat (first | exact Pick.here | apply Pick.there | apply Pick.seg)) (by rfl) ?_ | refine Sub.seg (by repeat (first | exact PickSeg.here | exact PickSeg.all | apply PickSeg.there | apply PickSeg.seg)) ?_ | exact Sub.seg0 (by repeat (first | exact PickSeg.here | exact PickSeg.all | apply PickSeg.there | apply PickSeg.seg)) | apply Sub.assoc))) ?_
        refine kt_d rfl rfl rfl (v_mv) ?_
        refine kt_d rfl rfl rfl (v_mv) ?_
        refine kt_d rfl rfl rfl (v_ia ej13 nj13 Try.runUnderlying39 Try.sizeOf56) ?_
        refine kt_d rfl rfl rfl (v_ldr nj13 ha0R Try.isAgg56) ?_
        refine kt_d rfl rfl rfl (v_mv) ?_
        refine kt_d rfl rfl rfl (v_mv) ?_
        refine kt_d rfl rfl rfl (v_ia ej14 nj14 Try.runUnderlying39 Try.sizeOf56) ?_
        refine kt_d rfl rfl rfl (v_ldr nj14 hb0R Try.isAgg56) ?_
        refine kt_one ?_
        refine kl_k rfl rfl (n_call Try.call34 (w_laws_eqIntS ((gx a0R j13).a) ((gx a0 j13).length) ((gx a0R j13).c) ((gx b0R j14).a) ((gx b0 j14).length) ((gx b0R j14).c) hv15) ?_ (hv := (Views.cons (by repeat (first | exact mr ha0R (by first | exact nj13 | (simpa using nj13) | omega | (simp only [List.length_set]; omega)) | exact mr0 ha0R (by first | exact nj13 | (simpa using nj13) | omega | (simp only [List.length_set]; omega)) | apply mt | apply mas | apply ms)) (View.refl _) (Views.cons (by repeat (first | exact mr hb0R (by first | exact nj14 | (simpa using nj14) | omega | (simp only [List.length_set]; omega)) | exact mr0 hb0R (by first | exact nj14 | (simpa using nj14) | omega | (simp only [List.length_set]; omega)) | apply mt | apply mas | apply ms)) (View.refl _) (Views.nil _)))))
        rintro _ _ ⟨rfl, rfl⟩
        refine ⟨.inl (by (repeat (first | exact Sub.refl _ | exact Sub.nil _ | refine Sub.chunk (by repeat (first | exact Pick.here | apply Pick.there | apply Pick.seg)) (by rfl) ?_ | refine Sub.seg (by repeat (first | exact PickSeg.here | exact PickSeg.all | apply PickSeg.there | apply PickSeg.seg)) ?_ | exact Sub.seg0 (by repeat (first | exact PickSeg.here | exact PickSeg.all | apply PickSeg.there | apply PickSeg.seg)) | apply Sub.assoc))), ?_⟩
        refine kt_d rfl rfl rfl (v_not) ?_
        refine kt_nil ?_
        refine kn_then ?_
        refine kwp_cond rfl (fun hc18 => ?_) (fun hc18 => ?_)
        ·
          replace h9 := e_t h9 hc18
          refine kwp_seq ?_
          refine kwp_region ?_
          refine kd (v_as) ?_
          refine kops_nil ?_
          refine kn_then ?_
          refine kwp_ret ?_
          refine kr_block ?_
          refine kr_then ?_
          refine kr_then ?_
          obtain rfl := e_some h9
          refine k_out ?_ rfl
          rintro rfl
          refine kr_block ?_
          refine kr_then ?_
          refine kr_then ?_
          obtain rfl := e_some g5
          refine r1 [] ?_
          exact ⟨rfl, rfl⟩
        ·
          replace h9 := e_f h9 hc18
          refine kwp_skip ?_
          refine kn_block ?_
          refine kn_then ?_
          refine kwp_region ?_
          refine kd (v_mv) ?_
          refine kd (v_add) ?_
          refine kd (v_as) ?_
          refine kops_nil ?_
          refine kn_then ?_
          obtain rfl := e_some h9
          exact ⟨_, (), rfl, hd_mk trivial⟩
      ·
        replace h9 := e_f h9 hc12
        refine kwp_exit ?_
        refine ke_then ?_
        obtain rfl := e_some h9
        refine k_out ?_ rfl
        rintro rfl
        refine ke_block ?_
        exact ⟨_, (), rfl, hd_mk trivial⟩
    · intro z19 y20 _ h21
      refine kn_then ?_
      refine kwp_seq ?_
      refine kwp_region ?_
      refine kd (v_as) ?_
      refine kops_nil ?_
      refine kn_then ?_
      refine kwp_ret ?_
      obtain rfl := e_some h21
      refine r1 [] ?_
      exact ⟨rfl, rfl⟩

set_option maxRecDepth 20000 in
theorem w_laws_markIntSS (a0a : Option Addr) (a0n : Nat) (a0c : Nat) (a0R : List Row) {a0 : List (List Int)} {k0 : Int} (ha0R : nums a0R = a0) {r : Int × List (List Int)} (h : p_laws_markIntSS a0 k0 = some r) :
    Triple Try.prog 27 [.slice a0a a0n a0c, .int .i64 k0] [] (⟨.slice a0a a0n a0c, 1, a0R.map encRow⟩ :: (rowsC a0R)) (fun v ch => ∃ (w1R : List Row), v = .int .i64 r.1 ∧ nums w1R = r.2 ∧ ch = (⟨.slice a0a a0n a0c, 1, w1R.map encRow⟩ :: (rowsC w1R))) := by
  refine triple_start 19 Try.func27 Try.ntmps27 rfl rfl (fun w0 => ?_)
  refine k_lenM (c := a0c) (m := a0) ha0R (fun hl1 => ?_)
  subst hl1
  unfold p_laws_markIntSS at h
  refine kwp_seq ?_
  refine kwp_region ?_
  refine kd (v_as) ?_
  refine kops_nil ?_
  refine kn_then ?_
  refine kwp_seq ?_
  refine kwp_seq ?_
  refine kwp_region ?_
  refine kd (v_as) ?_
  refine kops_nil ?_
  refine kn_then ?_
  refine kwp_cutE (inv := []) (fun (z : Int × List (List Int)) (y : List Row) => [(1, .int .i64 z.1)]) (fun (z : Int × List (List Int)) (y : List Row) => (⟨.slice a0a (a0.length) a0c, 1, y.map encRow⟩ :: (rowsC y))) (fun (z : Int × List (List Int)) (y : List Row) => nums y = z.2 ∧ True) h ?_ ?_
  · intro t6 h4
    refine kwp_block ?_
    refine kwp_loopE (inv := [(0, .slice a0a a0.length a0c)]) (fun (z : Int × Int × List (List Int)) (y : List Row) => [(1, .int .i64 z.1), (5, .int .i64 z.2.1)]) (fun (z : Int × Int × List (List Int)) (y : List Row) => (⟨.slice a0a (a0.length) a0c, 1, y.map encRow⟩ :: (rowsC y))) (fun (z : Int × Int × List (List Int)) (y : List Row) => nums y = z.2.2 ∧ True) h4 ⟨a0R, hd_mk ⟨ha0R, trivial⟩⟩ ?_
    intro z12 m9R b10 hp14 h11
    obtain ⟨k7, i8, m9⟩ := z12
    obtain ⟨hm9R, _⟩ := hp14
    refine k_lenM (m := m9) hm9R (fun hl15 => ?_)
    unfold p_laws_markIntSS_L0 at h11
    refine kwp_seq ?_
    refine kwp_seq ?_
    refine kwp_region ?_
    refine kd (v_mv) ?_
    refine kd (v_mv) ?_
    refine kd (v_len Try.runUnderlying39) ?_
    refine kd (v_cmp) ?_
    refine kops_nil ?_
    refine kn_then ?_
    refine kwp_cond rfl (fun hc16 => ?_) (fun hc16 => ?_)
    ·
      replace h11 := e_t h11 hc16
      refine kwp_skip ?_
      refine kn_then ?_
      refine kwp_seq ?_
      refine kwp_block ?_
      refine kwp_region ?_
      refine kd (v_mv) ?_
      refine kd (v_mv) ?_
      obtain ⟨j17, ej17, nj17, h11⟩ := e_idx h11
      refine kd (v_ia ej17 nj17 Try.runUnderlying39 Try.sizeOf56) ?_
      refine kd (v_ldr nj17 hm9R Try.isAgg56) ?_
      refine kd (v_mv) ?_
      obtain ⟨⟨v19, v20⟩, hv18, h11⟩ := e_bind h11
      refine kk (n_callrow (l' := v20) Try.call36 (by first | exact nj17 | (simpa using nj17) | omega | (simp only [List.length_set]; omega)) hm9R (w_laws_markIntS ((gx m9R j17).a) ((gx m9 j17).length) ((gx m9R j17).c) hv18) (Views.nil _) (by rintro _ _ ⟨_, rfl⟩; rfl) ?_)
      rintro _ _ R22 ⟨rfl, rfl⟩ hR22
      refine kd (v_as) ?_
      refine kops_nil ?_
      refine kn_block ?_
      refine kn_then ?_
      refine kwp_region ?_
      refine kd (v_mv) ?_
      refine kd (v_add) ?_
      refine kd (v_as) ?_
      refine kops_nil ?_
      refine kn_then ?_
      obtain rfl := e_some h11
      exact ⟨_, R22, rfl, hd_mk ⟨hR22, trivial⟩⟩
    ·
      replace h11 := e_f h11 hc16
      refine kwp_exit ?_
      refine ke_then ?_
      obtain rfl := e_some h11
      refine k_out ?_ rfl
      rintro rfl
      refine ke_block ?_
      exact ⟨m9R, hd_mk ⟨hm9R, trivial⟩⟩
  · intro z23 m3R hp26 h25
    obtain ⟨k2, m3⟩ := z23
    obtain ⟨hm3R, _⟩ := hp26
    refine kn_then ?_
    refine kwp_seq ?_
    refine kwp_region ?_
    refine kd (v_mv) ?_
    refine kd (v_as) ?_
    refine kops_nil ?_
    refine kn_then ?_
    refine kwp_ret ?_
    obtain rfl := e_some h25
    refine r1 (⟨.slice a0a (a0.length) a0c, 1, m3R.map encRow⟩ :: (rowsC m3R)) ?_
    exact ⟨m3R, rfl, hm3R, rfl⟩

set_option maxRecDepth 20000 in
theorem w_laws_heldIntSS (a0a : Option Addr) (a0n : Nat) (a0c : Nat) (a0R : List Row) {a0 : List (List Int)} {k0 : Int} (ha0R : nums a0R = a0) {r : Int} (h : p_laws_heldIntSS a0 k0 = some r) :
    Triple Try.prog 28 [.slice a0a a0n a0c, .int .i64 k0] (⟨.slice a0a a0n a0c, 1, a0R.map encRow⟩ :: (rowsC a0R)) [] (fun v ch => v = .int .i64 r ∧ ch = []) := by
  refine triple_start 21 Try.func28 Try.ntmps28 rfl rfl (fun w0 => ?_)
  refine k_lenM (c := a0c) (m := a0) ha0R (fun hl1 => ?_)
  subst hl1
  unfold p_laws_heldIntSS at h
  refine kwp_seq ?_
  refine kwp_region ?_
  refine kd (v_as) ?_
  refine kops_nil ?_
  refine kn_then ?_
  refine kwp_seq ?_
  refine kwp_seq ?_
  refine kwp_region ?_
  refine kd (v_as) ?_
  refine kops_nil ?_
  refine kn_then ?_
  refine kwp_cutO (inv := []) (fun (z : Int) (y : Unit) => [(1, .int .i64 z)]) (fun (z : Int) (y : Unit) => []) (fun _ _ => True) h ?_ ?_
  · intro t5 h3 g4
    refine kwp_block ?_
    refine kwp_loopE (inv := [(0, .slice a0a a0.length a0c)]) (fun (z : Int × Int) (y : Unit) => [(1, .int .i64 z.1), (5, .int .i64 z.2)]) (fun (z : Int × Int) (y : Unit) => []) (fun _ _ => True) h3 ⟨(), hd_mk trivial⟩ ?_
    intro z10 y11 b8 _ h9
    obtain ⟨k6, i7⟩ := z10
    unfold p_laws_heldIntSS_L0 at h9
    refine kwp_seq ?_
    refine kwp_seq ?_
    refine kwp_region ?_
    refine kd (v_mv) ?_
    refine kd (v_mv) ?_
    refine kd (v_len Try.runUnderlying39) ?_
    refine kd (v_cmp) ?_
    refine kops_nil ?_
    refine kn_then ?_
    refine kwp_cond rfl (fun hc12 => ?_) (fun hc12 => ?_)
    ·
      replace h9 := e_t h9 hc12
      refine kwp_skip ?_
      refine kn_then ?_
      refine kwp_seq ?_
      refine kwp_block ?_
      refine kwp_seq ?_
      refine kwp_region ?_
      refine kd (v_mv) ?_
      refine kd (v_mv) ?_
      obtain ⟨j13, ej13, nj13, h9⟩ := e_idx h9
      refine kd (v_ia ej13 nj13 Try.runUnderlying39 Try.sizeOf56) ?_
      refine kd (v_ldr nj13 ha0R Try.isAgg56) ?_
      refine kd (v_mv) ?_
      obtain ⟨v15, hv14, h9⟩ := e_bind h9
      refine kk (n_call Try.call37 (w_laws_heldIntS ((gx a0R j13).a) ((gx a0 j13).length) ((gx a0R j13).c) hv14) ?_ (hv := (Views.cons (by repeat (first | exact mr ha0R (by first | exact nj13 | (simpa using nj13) | omega | (simp only [List.length_set]; omega)) | exact mr0 ha0R (by first | exact nj13 | (simpa using nj13) | omega | (simp only [List.length_set]; omega)) | apply mt | apply mas | apply ms)) (View.refl _) (Views.nil _))))
      rintro _ _ ⟨rfl, rfl⟩
      refine kd (v_as) ?_
      refine kops_nil ?_
      refine kn_then ?_
      refine kwp_seq ?_
      refine kwp_region ?_
      refine kd (v_mv) ?_
      refine kd (v_cmp) ?_
      refine kops_nil ?_
      refine kn_then ?_
      refine kwp_cond rfl (fun hc17 => ?_) (fun hc17 => ?_)
      ·
        replace h9 := e_t h9 hc17
        refine kwp_seq ?_
        refine kwp_region ?_
        refine kd (v_as) ?_
        refine kops_nil ?_
        refine kn_then ?_
        refine kwp_ret ?_
        refine kr_block ?_
        refine kr_then ?_
        refine kr_then ?_
        obtain rfl := e_some h9
        refine k_out ?_ rfl
        rintro rfl
        refine kr_block ?_
        refine kr_then ?_
        refine kr_then ?_
        obtain rfl := e_some g4
        refine r1 [] ?_
        exact ⟨rfl, rfl⟩
      ·
        replace h9 := e_f h9 hc17
        refine kwp_skip ?_
        refine kn_block ?_
        refine kn_then ?_
        refine kwp_region ?_
        refine kd (v_mv) ?_
        refine kd (v_add) ?_
        refine kd (v_as) ?_
        refine kops_nil ?_
        refine kn_then ?_
        obtain rfl := e_some h9
        exact ⟨_, (), rfl, hd_mk trivial⟩
    ·
      replace h9 := e_f h9 hc12
      refine kwp_exit ?_
      refine ke_then ?_
      obtain rfl := e_some h9
      refine k_out ?_ rfl
      rintro rfl
      refine ke_block ?_
      exact ⟨_, (), rfl, hd_mk trivial⟩
  · intro k2 y19 _ h20
    refine kn_then ?_
    refine kwp_seq ?_
    refine kwp_region ?_
    refine kd (v_mv) ?_
    refine kd (v_as) ?_
    refine kops_nil ?_
    refine kn_then ?_
    refine kwp_ret ?_
    obtain rfl := e_some h20
    refine r1 [] ?_
    exact ⟨rfl, rfl⟩

end Go.Proofs.Ytkedammjdldloaa
