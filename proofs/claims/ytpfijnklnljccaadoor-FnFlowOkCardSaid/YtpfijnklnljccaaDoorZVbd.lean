/- What the plain programs return, the functions of the program return; no condition. -/
import Derived.Test.YtpfijnklnljccaaDoorZQ
import Derived.Test.YtpfijnklnljccaaDoorZFa
import Derived.Test.YtpfijnklnljccaaDoorZVbw
namespace Go.Proofs.YtpfijnklnljccaaDoor
open Go
set_option linter.unusedVariables false
set_option linter.unusedSimpArgs false

set_option maxRecDepth 20000 in
theorem w_impl_entriesFit (row0a : Option Addr) (row0n : Nat) (row0c : Nat) {row0 : List Int} {r : Bool} (h : p_impl_entriesFit row0 = some r) :
    Triple Tryd.prog 94 [.slice row0a row0n row0c] [⟨.slice row0a row0n row0c, 1, row0.map encI⟩] [] (fun v ch => v = .bool r ∧ ch = []) := by
  refine triple_start 15 Tryd.func94 Tryd.ntmps94 rfl rfl (fun w0 => ?_)
  refine k_len (c := row0c) (fun hl1 => ?_)
  subst hl1
  unfold p_impl_entriesFit at h
  refine kwp_seq ?_
  refine kwp_region ?_
  refine kd (v_as) ?_
  refine kops_nil ?_
  refine kn_then ?_
  refine kwp_seq ?_
  refine kwp_seq ?_
  refine kwp_region ?_
  refine kd (v_mv) ?_
  refine kd (v_len Tryd.runUnderlying46) ?_
  refine kd (v_mv) ?_
  refine kops_nil ?_
  refine kn_then ?_
  refine kwp_cutO (inv := []) (fun (z : Unit) (y : Unit) => []) (fun (z : Unit) (y : Unit) => []) (fun _ _ => True) h ?_ ?_
  · intro t4 h2 g3
    refine kwp_block ?_
    refine kwp_loopE (inv := [(5, .slice row0a row0.length row0c), (6, .int .i64 ((row0.length : Nat) : Int))]) (fun (z : Int) (y : Unit) => [(7, .int .i64 z)]) (fun (z : Int) (y : Unit) => []) (fun _ _ => True) h2 ⟨(), hd_mk trivial⟩ ?_
    intro x5 y9 b6 _ h7
    unfold p_impl_entriesFit_L0 at h7
    refine kwp_seq ?_
    refine kwp_region ?_
    refine kd (v_cmp) ?_
    refine kops_nil ?_
    refine kn_then ?_
    refine kwp_seq ?_
    refine kwp_cond rfl (fun hc10 => ?_) (fun hc10 => ?_)
    ·
      replace h7 := e_t h7 hc10
      refine kwp_skip ?_
      refine kn_then ?_
      refine kwp_seq ?_
      refine kwp_block ?_
      refine kwp_seq ?_
      refine kwp_region ?_
      obtain ⟨j11, ej11, nj11, h7⟩ := e_idx h7
      refine kd (v_ia ej11 nj11 Tryd.runUnderlying46 Tryd.sizeOf3) ?_
      refine kd (v_ldf nj11 Tryd.isAgg3) ?_
      refine kd (v_as) ?_
      refine kops_nil ?_
      refine kn_then ?_
      refine kwp_seq ?_
      refine kwp_region ?_
      refine kd (v_mv) ?_
      obtain ⟨v13, hv12, h7⟩ := e_bind h7
      refine kk (n_call Tryd.call89 (w_impl_isWithin hv12) ?_)
      rintro _ _ ⟨rfl, rfl⟩
      refine kd (v_not) ?_
      refine kops_nil ?_
      refine kn_then ?_
      refine kwp_cond rfl (fun hc15 => ?_) (fun hc15 => ?_)
      ·
        replace h7 := e_t h7 hc15
        refine kwp_seq ?_
        refine kwp_region ?_
        refine kd (v_as) ?_
        refine kops_nil ?_
        refine kn_then ?_
        refine kwp_ret ?_
        refine kr_block ?_
        refine kr_then ?_
        refine kr_then ?_
        obtain rfl := e_some h7
        refine k_out ?_ rfl
        rintro rfl
        refine kr_block ?_
        refine kr_then ?_
        refine kr_then ?_
        obtain rfl := e_some g3
        refine r1 [] ?_
        exact ⟨rfl, rfl⟩
      ·
        replace h7 := e_f h7 hc15
        refine kwp_skip ?_
        refine kn_block ?_
        refine kn_then ?_
        refine kwp_region ?_
        refine kd (v_add) ?_
        refine kd (v_mv) ?_
        refine kops_nil ?_
        refine kn_then ?_
        obtain rfl := e_some h7
        exact ⟨_, (), rfl, hd_mk trivial⟩
    ·
      replace h7 := e_f h7 hc10
      refine kwp_exit ?_
      refine ke_then ?_
      obtain rfl := e_some h7
      refine k_out ?_ rfl
      rintro rfl
      refine ke_block ?_
      exact ⟨_, (), rfl, hd_mk trivial⟩
  · intro z16 y17 _ h18
    refine kn_then ?_
    refine kwp_seq ?_
    refine kwp_region ?_
    refine kd (v_as) ?_
    refine kops_nil ?_
    refine kn_then ?_
    refine kwp_ret ?_
    obtain rfl := e_some h18
    refine r1 [] ?_
    exact ⟨rfl, rfl⟩

set_option maxRecDepth 20000 in
theorem w_impl_MatrixValid (m0a : Option Addr) (m0n : Nat) (m0c : Nat) (m0R : List Row) {m0 : List (List Int)} (hm0R : nums m0R = m0) {r : Bool} (h : p_impl_MatrixValid m0 = some r) :
    Triple Tryd.prog 71 [.slice m0a m0n m0c] (⟨.slice m0a m0n m0c, 1, m0R.map encRow⟩ :: (rowsC m0R)) [] (fun v ch => v = .bool r ∧ ch = []) := by
  refine triple_start 25 Tryd.func71 Tryd.ntmps71 rfl rfl (fun w0 => ?_)
  refine k_lenM (c := m0c) (m := m0) hm0R (fun hl1 => ?_)
  subst hl1
  unfold p_impl_MatrixValid at h
  refine kwp_seq ?_
  refine kwp_region ?_
  refine kd (v_as) ?_
  refine kops_nil ?_
  refine kn_then ?_
  refine kwp_seq ?_
  refine kwp_seq ?_
  refine kwp_region ?_
  refine kd (v_mv) ?_
  refine kd (v_len Tryd.runUnderlying42) ?_
  refine kd (v_cmp) ?_
  refine kops_nil ?_
  refine kn_then ?_
  refine kwp_cond rfl (fun hc2 => ?_) (fun hc2 => ?_)
  ·
    replace h := e_t h hc2
    refine kwp_seq ?_
    refine kwp_region ?_
    refine kd (v_as) ?_
    refine kops_nil ?_
    refine kn_then ?_
    refine kwp_ret ?_
    refine kr_then ?_
    obtain rfl := e_some h
    refine r1 [] ?_
    exact ⟨rfl, rfl⟩
  ·
    replace h := e_f h hc2
    refine kwp_skip ?_
    refine kn_then ?_
    refine kwp_seq ?_
    refine kwp_seq ?_
    refine kwp_region ?_
    refine kd (v_mv) ?_
    refine kd (v_len Tryd.runUnderlying42) ?_
    refine kd (v_mv) ?_
    refine kops_nil ?_
    refine kn_then ?_
    refine kwp_cutO (inv := []) (fun (z : Unit) (y : Unit) => []) (fun (z : Unit) (y : Unit) => []) (fun _ _ => True) h ?_ ?_
    · intro t5 h3 g4
      refine kwp_block ?_
      refine kwp_loopE (inv := [(0, .slice m0a m0.length m0c), (8, .slice m0a m0.length m0c), (9, .int .i64 ((m0.length : Nat) : Int))]) (fun (z : Int) (y : Unit) => [(10, .int .i64 z)]) (fun (z : Int) (y : Unit) => []) (fun _ _ => True) h3 ⟨(), hd_mk trivial⟩ ?_
      intro x6 y10 b7 _ h8
      unfold p_impl_MatrixValid_L0 at h8
      refine kwp_seq ?_
      refine kwp_region ?_
      refine kd (v_cmp) ?_
      refine kops_nil ?_
      refine kn_then ?_
      refine kwp_seq ?_
      refine kwp_cond rfl (fun hc11 => ?_) (fun hc11 => ?_)
      ·
        replace h8 := e_t h8 hc11
        refine kwp_skip ?_
        refine kn_then ?_
        refine kwp_seq ?_
        refine kwp_block ?_
        refine kwp_seq ?_
        refine kwp_region ?_
        obtain ⟨j12, ej12, nj12, h8⟩ := e_idx h8
        refine kd (v_ia ej12 nj12 Tryd.runUnderlying42 Tryd.sizeOf46) ?_
        refine kd (v_ldr nj12 hm0R Tryd.isAgg46) ?_
        refine kd (v_as) ?_
        refine kops_nil ?_
        refine kn_then ?_
        refine kwp_seq ?_
        refine kwp_region ?_
        refine kd (v_mv) ?_
        refine kd (v_len Tryd.runUnderlying46) ?_
        refine kd (v_mv) ?_
        refine kd (v_len Tryd.runUnderlying42) ?_
        refine kd (v_cmp) ?_
        refine kd (v_mv) ?_
        refine kops_split 19 rfl (fun hb13 => ?_) (fun hb13 => ?_)
        ·
          replace h8 := e_t h8 hb13
          refine kskip hb13 ?_
          refine kskip hb13 ?_
          refine kskip hb13 ?_
          refine kd (v_pt hb13) ?_
          refine kops_nil ?_
          refine kn_then ?_
          refine kwp_cond_t rfl rfl ?_
          refine kwp_seq ?_
          refine kwp_region ?_
          refine kd (v_as) ?_
          refine kops_nil ?_
          refine kn_then ?_
          refine kwp_ret ?_
          refine kr_block ?_
          refine kr_then ?_
          refine kr_then ?_
          obtain rfl := e_some h8
          refine k_out ?_ rfl
          rintro rfl
          refine kr_block ?_
          refine kr_then ?_
          refine kr_then ?_
          obtain rfl := e_some g4
          refine r1 [] ?_
          exact ⟨rfl, rfl⟩
        ·
          replace h8 := e_f h8 hb13
          refine kgd hb13 (v_mv) ?_
          obtain ⟨v15, hv14, h8⟩ := e_bind h8
          refine kgk hb13 (n_call Tryd.call94 (w_impl_entriesFit ((gx m0R j12).a) ((gx m0 j12).length) ((gx m0R j12).c) hv14) ?_ (hv := (Views.cons (by repeat (first | exact mr hm0R (by first | exact nj12 | (simpa using nj12) | omega | (simp only [List.length_set]; omega)) | exact mr0 hm0R (by first | exact nj12 | (simpa using nj12) | omega | (simp only [List.length_set]; omega)) | apply mt | apply mas | apply ms)) (View.refl _) (Views.nil _))))
          rintro _ _ ⟨rfl, rfl⟩
          refine kgd hb13 (v_not) ?_
          refine kd (v_pf hb13) ?_
          refine kops_nil ?_
          refine kn_then ?_
          refine kwp_cond rfl (fun hc17 => ?_) (fun hc17 => ?_)
          ·
            replace h8 := e_t h8 hc17
            refine kwp_seq ?_
            refine kwp_region ?_
            refine kd (v_as) ?_
            refine kops_nil ?_
            refine kn_then ?_
            refine kwp_ret ?_
            refine kr_block ?_
            refine kr_then ?_
            refine kr_then ?_
            obtain rfl := e_some h8
            refine k_out ?_ rfl
            rintro rfl
            refine kr_block ?_
            refine kr_then ?_
            refine kr_then ?_
            obtain rfl := e_some g4
            refine r1 [] ?_
            exact ⟨rfl, rfl⟩
          ·
            replace h8 := e_f h8 hc17
            refine kwp_skip ?_
            refine kn_block ?_
            refine kn_then ?_
            refine kwp_region ?_
            refine kd (v_add) ?_
            refine kd (v_mv) ?_
            refine kops_nil ?_
            refine kn_then ?_
            obtain rfl := e_some h8
            exact ⟨_, (), rfl, hd_mk trivial⟩
      ·
        replace h8 := e_f h8 hc11
        refine kwp_exit ?_
        refine ke_then ?_
        obtain rfl := e_some h8
        refine k_out ?_ rfl
        rintro rfl
        refine ke_block ?_
        exact ⟨_, (), rfl, hd_mk trivial⟩
    · intro z18 y19 _ h20
      refine kn_then ?_
      refine kwp_seq ?_
      refine kwp_region ?_
      refine kd (v_as) ?_
      refine kops_nil ?_
      refine kn_then ?_
      refine kwp_ret ?_
      obtain rfl := e_some h20
      refine r1 [] ?_
      exact ⟨rfl, rfl⟩

set_option maxRecDepth 20000 in
set_option maxHeartbeats 2000000 in
theorem w_impl_detFrom : ∀ (fuel : Nat) (m0a : Option Addr) (m0n : Nat) (m0c : Nat) (m0R : List Row) {m0 : List (List Int)} {row0 : Int} {used0 : Int} (hm0R : nums m0R = m0) {r : Int} (h : p_impl_detFrom fuel m0 row0 used0 = some r), Triple Tryd.prog 100 [.slice m0a m0n m0c, .int .i64 row0, .int .i64 used0] (⟨.slice m0a m0n m0c, 1, m0R.map encRow⟩ :: (rowsC m0R)) [] (fun v ch => v = .int .i64 r ∧ ch = []) := by
  intro fuel
  induction fuel with
  | zero => intros; rename_i h; cases h
  | succ fuel ih =>
    intro m0a m0n m0c m0R m0 row0 used0 hm0R r h
    refine triple_start 50 Tryd.func100 Tryd.ntmps100 rfl rfl (fun w0 => ?_)
    refine k_lenM (c := m0c) (m := m0) hm0R (fun hl1 => ?_)
    subst hl1
    unfold p_impl_detFrom at h
    refine kwp_seq ?_
    refine kwp_region ?_
    refine kd (v_as) ?_
    refine kops_nil ?_
    refine kn_then ?_
    refine kwp_seq ?_
    refine kwp_seq ?_
    refine kwp_region ?_
    refine kd (v_mv) ?_
    refine kd (v_mv) ?_
    refine kd (v_len Tryd.runUnderlying42) ?_
    refine kd (v_cmp) ?_
    refine kops_nil ?_
    refine kn_then ?_
    refine kwp_cond rfl (fun hc2 => ?_) (fun hc2 => ?_)
    ·
      replace h := e_t h hc2
      refine kwp_seq ?_
      refine kwp_region ?_
      refine kd (v_as) ?_
      refine kops_nil ?_
      refine kn_then ?_
      refine kwp_ret ?_
      refine kr_then ?_
      obtain rfl := e_some h
      refine r1 [] ?_
      exact ⟨rfl, rfl⟩
    ·
      replace h := e_f h hc2
      refine kwp_skip ?_
      refine kn_then ?_
      refine kwp_seq ?_
      refine kwp_region ?_
      refine kd (v_as) ?_
      refine kops_nil ?_
      refine kn_then ?_
      refine kwp_seq ?_
      refine kwp_region ?_
      refine kd (v_as) ?_
      refine kops_nil ?_
      refine kn_then ?_
      refine kwp_seq ?_
      refine kwp_seq ?_
      refine kwp_region ?_
      refine kd (v_mv) ?_
      refine kd (v_mv) ?_
      obtain ⟨j3, ej3, nj3, h⟩ := e_idx h
      refine kd (v_ia ej3 nj3 Tryd.runUnderlying42 Tryd.sizeOf46) ?_
      refine kd (v_ldr nj3 hm0R Tryd.isAgg46) ?_
      refine kd (v_len Tryd.runUnderlying46) ?_
      refine kd (v_mv) ?_
      refine kops_nil ?_
      refine kn_then ?_
      refine kwp_cutE (inv := []) (fun (z : Int) (y : Unit) => [(7, .int .i64 z)]) (fun (z : Int) (y : Unit) => []) (fun _ _ => True) h ?_ ?_
      · intro t7 h5
        refine kwp_block ?_
        refine kwp_loopE (inv := [(0, .slice m0a m0.length m0c), (1, .int .i64 row0), (2, .int .i64 used0), (18, .slice ((gx m0R j3).a) ((gx m0 j3).length) ((gx m0R j3).c)), (19, .int .i64 (((gx m0 j3).length : Nat) : Int))]) (fun (z : Int × Int × Int) (y : Unit) => [(7, .int .i64 z.1), (8, .int .i64 z.2.1), (20, .int .i64 z.2.2)]) (fun (z : Int × Int × Int) (y : Unit) => []) (fun _ _ => True) h5 ⟨(), hd_mk trivial⟩ ?_
        intro z13 y14 b11 _ h12
        obtain ⟨sum8, sign9, x10⟩ := z13
        unfold p_impl_detFrom_L0 at h12
        refine kwp_seq ?_
        refine kwp_region ?_
        refine kd (v_cmp) ?_
        refine kops_nil ?_
        refine kn_then ?_
        refine kwp_seq ?_
        refine kwp_cond rfl (fun hc15 => ?_) (fun hc15 => ?_)
        ·
          replace h12 := e_t h12 hc15
          refine kwp_skip ?_
          refine kn_then ?_
          refine kwp_seq ?_
          refine kwp_block ?_
          refine kwp_seq ?_
          refine kwp_region ?_
          refine kd (v_mv) ?_
          obtain ⟨j16, ej16, nj16, h12⟩ := e_idx h12
          refine kd (v_ia ej16 nj16 Tryd.runUnderlying46 Tryd.sizeOf3 (hm := by repeat (first | exact mr hm0R (by first | exact nj3 | (simpa using nj3) | omega | (simp only [List.length_set]; omega)) | exact mr0 hm0R (by first | exact nj3 | (simpa using nj3) | omega | (simp only [List.length_set]; omega)) | apply mt | apply mas | apply ms))) ?_
          refine kd (v_ldf nj16 Tryd.isAgg3 (hm := by repeat (first | exact mr hm0R (by first | exact nj3 | (simpa using nj3) | omega | (simp only [List.length_set]; omega)) | exact mr0 hm0R (by first | exact nj3 | (simpa using nj3) | omega | (simp only [List.length_set]; omega)) | apply mt | apply mas | apply ms))) ?_
          refine kd (v_as) ?_
          refine kd (v_as) ?_
          refine kops_nil ?_
          refine kn_then ?_
          refine kwp_seq ?_
          refine kwp_seq ?_
          refine kwp_region ?_
          refine kd (v_mv) ?_
          refine kd (v_mv) ?_
          obtain ⟨hz17, h12⟩ := e_need h12
          refine kd (v_shr (h0 := hz17)) ?_
          refine kd (v_bit) ?_
          refine kd (v_cmp) ?_
          refine kops_nil ?_
          refine kn_then ?_
          refine kwp_cond rfl (fun hc18 => ?_) (fun hc18 => ?_)
          ·
            replace h12 := e_t h12 hc18
            refine kwp_exit ?_
            refine ke_then ?_
            refine ke_block ?_
            refine kn_then ?_
            refine kwp_region ?_
            refine kd (v_add) ?_
            refine kd (v_mv) ?_
            refine kops_nil ?_
            refine kn_then ?_
            obtain rfl := e_some h12
            exact ⟨_, (), rfl, hd_mk trivial⟩
          ·
            replace h12 := e_f h12 hc18
            refine kwp_skip ?_
            refine kn_then ?_
            refine kwp_seq ?_
            refine kwp_seq ?_
            refine kwp_region ?_
            refine kd (v_mv) ?_
            refine kd (v_cmp) ?_
            refine kops_nil ?_
            refine kn_then ?_
            refine kwp_cond rfl (fun hc19 => ?_) (fun hc19 => ?_)
            ·
              replace h12 := e_t h12 hc19
              refine kwp_region ?_
              refine kd (v_mv) ?_
              refine kd (v_mv) ?_
              refine kd (v_mv) ?_
              refine kd (v_mul) ?_
              refine kd (v_mv) ?_
              refine kd (v_mv) ?_
              refine kd (v_add) ?_
              refine kd (v_mv) ?_
              refine kd (v_mv) ?_
              obtain ⟨hz20, h12⟩ := e_need h12
              refine kd (v_shl (h0 := hz20)) ?_
              refine kd (v_bit) ?_
              obtain ⟨v22, hv21, h12⟩ := e_bind h12
              refine kk (n_call Tryd.call100 (ih m0a m0.length m0c m0R hm0R hv21) ?_)
              rintro _ _ ⟨rfl, rfl⟩
              refine kd (v_mul) ?_
              refine kd (v_add) ?_
              refine kd (v_as) ?_
              refine kops_nil ?_
              refine kn_then ?_
              refine kwp_region ?_
              refine kd (v_mv) ?_
              refine kd (v_neg) ?_
              refine kd (v_as) ?_
              refine kops_nil ?_
              refine kn_block ?_
              refine kn_then ?_
              refine kwp_region ?_
              refine kd (v_add) ?_
              refine kd (v_mv) ?_
              refine kops_nil ?_
              refine kn_then ?_
              obtain rfl := e_some h12
              exact ⟨_, (), rfl, hd_mk trivial⟩
            ·
              replace h12 := e_f h12 hc19
              refine kwp_skip ?_
              refine kn_then ?_
              refine kwp_region ?_
              refine kd (v_mv) ?_
              refine kd (v_neg) ?_
              refine kd (v_as) ?_
              refine kops_nil ?_
              refine kn_block ?_
              refine kn_then ?_
              refine kwp_region ?_
              refine kd (v_add) ?_
              refine kd (v_mv) ?_
              refine kops_nil ?_
              refine kn_then ?_
              obtain rfl := e_some h12
              exact ⟨_, (), rfl, hd_mk trivial⟩
        ·
          replace h12 := e_f h12 hc15
          refine kwp_exit ?_
          refine ke_then ?_
          obtain rfl := e_some h12
          refine k_out ?_ rfl
          rintro rfl
          refine ke_block ?_
          exact ⟨(), hd_mk trivial⟩
      · intro sum4 y25 _ h26
        refine kn_then ?_
        refine kwp_seq ?_
        refine kwp_region ?_
        refine kd (v_mv) ?_
        refine kd (v_as) ?_
        refine kops_nil ?_
        refine kn_then ?_
        refine kwp_ret ?_
        obtain rfl := e_some h26
        refine r1 [] ?_
        exact ⟨rfl, rfl⟩

set_option maxRecDepth 20000 in
theorem w_impl_Det (m0a : Option Addr) (m0n : Nat) (m0c : Nat) (m0R : List Row) {m0 : List (List Int)} (hm0R : nums m0R = m0) {r : Int} (h : p_impl_Det m0 = some r) :
    Triple Tryd.prog 77 [.slice m0a m0n m0c] (⟨.slice m0a m0n m0c, 1, m0R.map encRow⟩ :: (rowsC m0R)) [] (fun v ch => v = .int .i64 r ∧ ch = []) := by
  refine triple_start 8 Tryd.func77 Tryd.ntmps77 rfl rfl (fun w0 => ?_)
  refine k_lenM (c := m0c) (m := m0) hm0R (fun hl1 => ?_)
  subst hl1
  unfold p_impl_Det at h
  refine kwp_seq ?_
  refine kwp_region ?_
  refine kd (v_as) ?_
  refine kops_nil ?_
  refine kn_then ?_
  refine kwp_seq ?_
  refine kwp_seq ?_
  refine kwp_region ?_
  refine kd (v_mv) ?_
  obtain ⟨v3, hv2, h⟩ := e_bind h
  refine kk (n_call Tryd.call71 (w_impl_MatrixValid m0a m0.length m0c m0R hm0R hv2) ?_)
  rintro _ _ ⟨rfl, rfl⟩
  refine kd (v_not) ?_
  refine kops_nil ?_
  refine kn_then ?_
  refine kwp_cond rfl (fun hc5 => ?_) (fun hc5 => ?_)
  ·
    replace h := e_t h hc5
    refine kwp_seq ?_
    refine kwp_region ?_
    refine kd (v_as) ?_
    refine kops_nil ?_
    refine kn_then ?_
    refine kwp_ret ?_
    refine kr_then ?_
    obtain rfl := e_some h
    refine r1 [] ?_
    exact ⟨rfl, rfl⟩
  ·
    replace h := e_f h hc5
    refine kwp_skip ?_
    refine kn_then ?_
    refine kwp_seq ?_
    refine kwp_region ?_
    refine kd (v_mv) ?_
    obtain ⟨v7, hv6, h⟩ := e_bind h
    refine kk (n_call Tryd.call100 (w_impl_detFrom 64 m0a m0.length m0c m0R hm0R hv6) ?_)
    rintro _ _ ⟨rfl, rfl⟩
    refine kd (v_as) ?_
    refine kops_nil ?_
    refine kn_then ?_
    refine kwp_ret ?_
    obtain rfl := e_some h
    refine r1 [] ?_
    exact ⟨rfl, rfl⟩

set_option maxRecDepth 20000 in
theorem w_impl_AirTrees (m01a : Option Addr) (m01n : Nat) (m01c : Nat) {m0 : Mine} {r : Int} (h : p_impl_AirTrees m0 = some r) :
    Triple Tryd.prog 37 [.agg #[.int .i64 m0.p, .slice m01a m01n m01c]] [⟨.slice m01a m01n m01c, 3, m0.aw.map encAirway⟩] [] (fun v ch => v = .int .i64 r ∧ ch = []) := by
  refine triple_start 9 Tryd.func37 Tryd.ntmps37 rfl rfl (fun w0 => ?_)
  refine k_len (c := m01c) (fun hl1 => ?_)
  subst hl1
  unfold p_impl_AirTrees at h
  refine kwp_seq ?_
  refine kwp_region ?_
  refine kk (n_box (e := [.int .i64 m0.p, .slice m01a m0.aw.length m01c]) 2 (fun p1_2 => ?_))
  refine kd (v_as) ?_
  refine kops_nil ?_
  refine kn_then ?_
  refine kwp_seq ?_
  refine kwp_seq ?_
  refine kwp_region ?_
  refine kd (v_ldB Tryd.isAgg32 Tryd.sizeOf32) ?_
  obtain ⟨v4, hv3, h⟩ := e_bind h
  refine kk (n_call Tryd.call20 (w_impl_MineValid m01a m0.aw.length m01c hv3) ?_)
  rintro _ _ ⟨rfl, rfl⟩
  refine kd (v_not) ?_
  refine kops_nil ?_
  refine kn_then ?_
  refine kwp_cond rfl (fun hc6 => ?_) (fun hc6 => ?_)
  ·
    replace h := e_t h hc6
    refine kwp_seq ?_
    refine kwp_region ?_
    refine kd (v_as) ?_
    refine kops_nil ?_
    refine kn_then ?_
    refine kwp_ret ?_
    refine kr_then ?_
    obtain rfl := e_some h
    refine r1 [] ?_
    exact ⟨rfl, rfl⟩
  ·
    replace h := e_f h hc6
    refine kwp_skip ?_
    refine kn_then ?_
    refine kwp_seq ?_
    refine kwp_region ?_
    refine kd (v_ldB Tryd.isAgg32 Tryd.sizeOf32) ?_
    obtain ⟨v8, hv7, h⟩ := e_bind h
    refine kk (n_call Tryd.call28 (w_impl_AirMatrix m01a m0.aw.length m01c hv7) ?_)
    rintro _ _ ⟨q9a, q9c, q9R, rfl, hq9R, rfl⟩
    obtain ⟨v11, hv10, h⟩ := e_bind h
    refine kk (n_call Tryd.call77 (w_impl_Det q9a v8.length q9c q9R hq9R hv10) ?_)
    rintro _ _ ⟨rfl, rfl⟩
    refine kd (v_as) ?_
    refine kops_nil ?_
    refine kn_then ?_
    refine kwp_ret ?_
    obtain rfl := e_some h
    refine r1 [] ?_
    exact ⟨rfl, rfl⟩

end Go.Proofs.YtpfijnklnljccaaDoor
