/- The walks of some functions, each by its contract; conditions: those that each contract names. -/
import Derived.Test.YtfgialdcilldiaaWk
import Derived.Test.YtfgialdcilldiaaPd
namespace Go.Proofs.Ytfgialdcilldiaa
open Go
set_option linter.unusedVariables false
set_option linter.unusedSimpArgs false


set_option maxRecDepth 20000 in
theorem c_impl_ownParts (n : Int) (hn : 0 ≤ n ∧ n ≤ 1048576) :
    Triple Try.prog 73 [.int .i64 n] [] [] (fun r ch => ∃ a' c', r = .slice a' n.toNat c' ∧ ch = [⟨.slice a' n.toNat c', 1, (ownL n.toNat).map encI⟩]) := by
  refine triple_start 18 Try.func73 Try.ntmps73 rfl rfl (fun w0 => ?_)
  refine kwp_seq ?_
  refine kwp_region ?_
  refine kops_d rfl rfl (opv_assign rfl rfl) ?_
  refine kops_nil ?_
  refine kn_then ?_
  refine kwp_seq ?_
  refine kwp_region ?_
  refine kops_d rfl rfl (opv_move rfl rfl) ?_
  refine kops_step rfl (opk_make (zs := [(.int .i64 0)]) rfl rfl rfl Try.underlying39 Try.type3 rfl rfl rfl rfl (by decide) (by omega) (show ((8 : Nat) : Int) * _ ≤ 281474976710656 by omega) (by omega) (fun a6 => ?_))
  refine kops_d rfl rfl (opv_assign rfl rfl) ?_
  refine kops_nil ?_
  refine kn_then ?_
  refine kwp_seq ?_
  refine kwp_seq ?_
  refine kwp_region ?_
  refine kops_d rfl rfl (opv_move rfl rfl) ?_
  refine kops_d rfl rfl (opv_len rfl rfl rfl Try.runUnderlying39) ?_
  refine kops_d rfl rfl (opv_move rfl rfl) ?_
  refine kops_nil ?_
  refine kn_then ?_
  refine kwp_block ?_
  refine kwp_loop1 (inv := [(2, _), (3, _), (8, _)]) (ic := [])
    (fun (k : Nat) => [(9, .int .i64 k)])
    (fun (k : Nat) => [⟨.slice (some a6) n.toNat n.toNat, 1, (mixL (ownL n.toNat) (List.replicate n.toNat 0) k).map encI⟩])
    (fun (k : Nat) => k ≤ n.toNat)
    (fun (k : Nat) => n.toNat - k)
    ⟨0, ⟨by first | trivial | omega | (refine ⟨?_, ?_⟩ <;> omega) | (simp; done), by (repeat (first | exact Knows.nil _ | refine Knows.cons2 rfl (by first | rfl | (rw [mix_zero, List.map_replicate]; rfl)) ?_)), by (repeat (first | exact Sub.refl _ | exact Sub.nil _ | refine Sub.chunk (by repeat (first | exact Pick.here | apply Pick.there)) (by first | rfl | (rw [mix_zero, List.map_replicate]; rfl)) ?_))⟩⟩ (fun k hp => ?_)
  refine kwp_seq ?_
  refine kwp_region ?_
  refine kops_d rfl rfl (opv_cmp rfl rfl rfl rfl) ?_
  refine kops_nil ?_
  refine kn_then ?_
  refine kwp_seq ?_
  refine kwp_cond rfl (fun hc2 => ?_) (fun hc2 => ?_)
  ·
    first | have hc2n := kb_nt hc2 | have hc2n := kb_nf hc2 | have hc2n := hc2
    first | have hc2m := of_decide_eq_true hc2n | have hc2m := of_decide_eq_false hc2n | have hc2m := kb_eq hc2n | have hc2m := kb_ne hc2n | have hc2m := kb_bne hc2n | have hc2m := kb_nbne hc2n | have hc2m := isIx_t hc2n | have hc2m := isIx_f hc2n | have hc2m := inR_t hc2n | have hc2m := inR_f hc2n | have hc2m := dec_tt hc2n | have hc2m := dec_ff hc2n | have hc2m := hc2n
    try simp only [List.get_eq_getElem] at hc2n
    try simp only [List.get_eq_getElem] at hc2m
    refine kwp_skip ?_
    refine kn_then ?_
    refine kwp_seq ?_
    refine kwp_block ?_
    refine kwp_seq ?_
    refine kwp_region ?_
    refine kops_d rfl rfl (opv_move rfl rfl) ?_
    refine kops_d rfl rfl (opv_assign rfl rfl) ?_
    refine kops_nil ?_
    refine kn_then ?_
    refine kwp_region ?_
    refine kops_d rfl rfl (opv_move rfl rfl) ?_
    refine kops_d rfl rfl (opv_move rfl rfl) ?_
    refine kops_d rfl rfl (opv_move rfl rfl) ?_
    refine kops_d rfl rfl (opv_ia rfl rfl rfl Try.runUnderlying39 Try.sizeOf3 (by repeat (first | exact List.Mem.head _ | apply List.Mem.tail)) (by first | rfl | exact (Int.toNat_of_nonneg (by omega)).symm) (by first | omega | (simp only [List.length_map]; omega) | (simp only [List.length_set, List.length_map, ownL_len, partsTo_len, joinP_len]; omega) | (rw [mix_len joinP_len]; omega) | (rw [List.length_map, mix_len joinP_len]; omega) | (rw [mix_len (by simp [ownL_len])]; simp only [List.length_replicate]; omega) | (rw [List.length_map, mix_len (by simp [ownL_len])]; simp only [List.length_replicate]; omega) | (rw [List.length_map, mix_len joinP_len, partsTo_len]; omega) | (rw [mix_len joinP_len, partsTo_len]; omega) | (simp; omega) | (simp; done))) ?_
    first | refine kops_step rfl (opk_store_i rfl rfl rfl Try.sizeOf3 (by repeat (first | exact Upd.here | apply Upd.there)) (by first | omega | (simp only [List.length_map]; omega) | (simp only [List.length_set, List.length_map, ownL_len, partsTo_len, joinP_len]; omega) | (rw [mix_len joinP_len]; omega) | (rw [List.length_map, mix_len joinP_len]; omega) | (rw [mix_len (by simp [ownL_len])]; simp only [List.length_replicate]; omega) | (rw [List.length_map, mix_len (by simp [ownL_len])]; simp only [List.length_replicate]; omega) | (rw [List.length_map, mix_len joinP_len, partsTo_len]; omega) | (rw [mix_len joinP_len, partsTo_len]; omega) | (simp; omega) | (simp; done)) ?_) | refine kops_step rfl (opk_store rfl rfl rfl Try.sizeOf3 rfl (by repeat (first | exact Upd.here | apply Upd.there)) (by first | rfl | exact gx_map (by first | omega | (simp only [List.length_set, ownL_len, partsTo_len, joinP_len]; omega)) | exact mixi_get (by first | exact joinP_len | (simp only [ownL_len, List.length_replicate])) (by first | omega | (simp only [ownL_len, partsTo_len, joinP_len, List.length_replicate]; omega)) | (simp; done)) (by decide) ?_)
    refine kops_nil ?_
    refine kn_block ?_
    refine kn_then ?_
    refine kwp_region ?_
    refine kops_d rfl rfl (by first | exact opv_add rfl rfl rfl ⟨by omega, by omega⟩ | exact opv_ari rfl rfl rfl rfl) ?_
    refine kops_d rfl rfl (opv_move rfl rfl) ?_
    refine kops_nil ?_
    refine kn_then ?_
    exact ⟨k + 1, ⟨by first | trivial | omega | (refine ⟨?_, ?_⟩ <;> omega) | (simp; done), by (repeat (first | exact Knows.nil _ | refine Knows.cons2 rfl (by first | rfl | (congr 1; omega) | exact mixi_set (by simp [ownL_len]) (by simp; omega) (ownL_gx (by omega)).symm) ?_)), by (repeat (first | exact Sub.refl _ | exact Sub.nil _ | refine Sub.chunk (by repeat (first | exact Pick.here | apply Pick.there)) (by first | rfl | (congr 1; omega) | exact mixi_set (by simp [ownL_len]) (by simp; omega) (ownL_gx (by omega)).symm) ?_))⟩, by omega⟩
  ·
    first | have hc2n := kb_nt hc2 | have hc2n := kb_nf hc2 | have hc2n := hc2
    first | have hc2m := of_decide_eq_true hc2n | have hc2m := of_decide_eq_false hc2n | have hc2m := kb_eq hc2n | have hc2m := kb_ne hc2n | have hc2m := kb_bne hc2n | have hc2m := kb_nbne hc2n | have hc2m := isIx_t hc2n | have hc2m := isIx_f hc2n | have hc2m := inR_t hc2n | have hc2m := inR_f hc2n | have hc2m := dec_tt hc2n | have hc2m := dec_ff hc2n | have hc2m := hc2n
    try simp only [List.get_eq_getElem] at hc2n
    try simp only [List.get_eq_getElem] at hc2m
    refine kwp_exit ?_
    refine ke_then ?_
    refine ke_then ?_
    refine ke_block ?_
    refine kn_then ?_
    refine kwp_seq ?_
    refine kwp_region ?_
    refine kops_d rfl rfl (opv_move rfl rfl) ?_
    refine kops_d rfl rfl (opv_assign rfl rfl) ?_
    refine kops_nil ?_
    refine kn_then ?_
    refine kwp_ret ?_
    refine kret1 [⟨.slice (some a6) n.toNat n.toNat, 1, (ownL n.toNat).map encI⟩] rfl rfl ?_ (by (refine Sub.chunk (by repeat (first | exact Pick.here | apply Pick.there)) (by rw [mix_end (by rw [ownL_len]; omega) (by simp; omega)]) (Sub.nil _)))
    exact ⟨_, _, rfl, rfl⟩

set_option maxRecDepth 20000 in
theorem c_impl_joinParts (a0 : Option Addr) (n c : Nat) (L : List Int) (a b : Int) (ha : 0 ≤ a ∧ a < n) (hb : 0 ≤ b ∧ b < n) (hn : n ≤ 1048576) :
    Triple Try.prog 74 [.slice a0 n c, .int .i64 a, .int .i64 b] [] [⟨.slice a0 n c, 1, L.map encI⟩] (fun r ch => r = .bool (decide (gx L a.toNat ≠ gx L b.toNat)) ∧ ch = [⟨.slice a0 n c, 1, (joinP L a.toNat b.toNat).map encI⟩]) := by
  refine triple_start 47 Try.func74 Try.ntmps74 rfl rfl (fun w0 => ?_)
  refine kwp_len (by repeat (first | exact List.Mem.head _ | apply List.Mem.tail)) (fun hl => ?_)
  simp only [List.length_map] at hl
  subst hl
  refine kwp_seq ?_
  refine kwp_region ?_
  refine kops_d rfl rfl (opv_assign rfl rfl) ?_
  refine kops_nil ?_
  refine kn_then ?_
  refine kwp_seq ?_
  refine kwp_draw [(0, true), (1, true), (2, true), (3, true), (4, true), (5, true), (6, true), (7, true), (8, true), (9, true), (10, true), (11, true), (12, true), (13, true), (14, true), (15, true), (16, true), (17, true), (18, true), (19, true)] [] _ drawMixed (by kernel_rfl) (fun _ _ _ h => h) (Sub.refl _) ?_
  refine ks_d rfl rfl rfl (opv_move rfl rfl) ?_
  refine ks_d rfl rfl rfl (opv_move rfl rfl) ?_
  refine ks_d rfl rfl rfl (opv_ia rfl rfl rfl Try.runUnderlying39 Try.sizeOf3 (by repeat (first | exact List.Mem.head _ | apply List.Mem.tail)) (by first | rfl | exact (Int.toNat_of_nonneg (by omega)).symm) (by first | omega | (simp only [List.length_map]; omega) | (simp only [List.length_set, List.length_map, ownL_len, partsTo_len, joinP_len]; omega) | (rw [mix_len joinP_len]; omega) | (rw [List.length_map, mix_len joinP_len]; omega) | (rw [mix_len (by simp [ownL_len])]; simp only [List.length_replicate]; omega) | (rw [List.length_map, mix_len (by simp [ownL_len])]; simp only [List.length_replicate]; omega) | (rw [List.length_map, mix_len joinP_len, partsTo_len]; omega) | (rw [mix_len joinP_len, partsTo_len]; omega) | (simp; omega) | (simp; done))) ?_
  refine ks_d rfl rfl rfl (opv_load rfl rfl Try.isAgg3 (by repeat (first | exact List.Mem.head _ | apply List.Mem.tail)) (by first | rfl | exact gx_map (by first | omega | (simp only [List.length_set, ownL_len, partsTo_len, joinP_len]; omega)) | exact mixi_get (by first | exact joinP_len | (simp only [ownL_len, List.length_replicate])) (by first | omega | (simp only [ownL_len, partsTo_len, joinP_len, List.length_replicate]; omega)) | (simp; done)) rfl) ?_
  refine ks_d rfl rfl rfl (opv_move rfl rfl) ?_
  refine ks_d rfl rfl rfl (opv_move rfl rfl) ?_
  refine ks_d rfl rfl rfl (opv_ia rfl rfl rfl Try.runUnderlying39 Try.sizeOf3 (by repeat (first | exact List.Mem.head _ | apply List.Mem.tail)) (by first | rfl | exact (Int.toNat_of_nonneg (by omega)).symm) (by first | omega | (simp only [List.length_map]; omega) | (simp only [List.length_set, List.length_map, ownL_len, partsTo_len, joinP_len]; omega) | (rw [mix_len joinP_len]; omega) | (rw [List.length_map, mix_len joinP_len]; omega) | (rw [mix_len (by simp [ownL_len])]; simp only [List.length_replicate]; omega) | (rw [List.length_map, mix_len (by simp [ownL_len])]; simp only [List.length_replicate]; omega) | (rw [List.length_map, mix_len joinP_len, partsTo_len]; omega) | (rw [mix_len joinP_len, partsTo_len]; omega) | (simp; omega) | (simp; done))) ?_
  refine ks_d rfl rfl rfl (opv_load rfl rfl Try.isAgg3 (by repeat (first | exact List.Mem.head _ | apply List.Mem.tail)) (by first | rfl | exact gx_map (by first | omega | (simp only [List.length_set, ownL_len, partsTo_len, joinP_len]; omega)) | exact mixi_get (by first | exact joinP_len | (simp only [ownL_len, List.length_replicate])) (by first | omega | (simp only [ownL_len, partsTo_len, joinP_len, List.length_replicate]; omega)) | (simp; done)) rfl) ?_
  refine ks_d rfl rfl rfl (opv_min rfl rfl rfl) ?_
  refine ks_d rfl rfl rfl (opv_move rfl rfl) ?_
  refine ks_d rfl rfl rfl (opv_move rfl rfl) ?_
  refine ks_d rfl rfl rfl (opv_ia rfl rfl rfl Try.runUnderlying39 Try.sizeOf3 (by repeat (first | exact List.Mem.head _ | apply List.Mem.tail)) (by first | rfl | exact (Int.toNat_of_nonneg (by omega)).symm) (by first | omega | (simp only [List.length_map]; omega) | (simp only [List.length_set, List.length_map, ownL_len, partsTo_len, joinP_len]; omega) | (rw [mix_len joinP_len]; omega) | (rw [List.length_map, mix_len joinP_len]; omega) | (rw [mix_len (by simp [ownL_len])]; simp only [List.length_replicate]; omega) | (rw [List.length_map, mix_len (by simp [ownL_len])]; simp only [List.length_replicate]; omega) | (rw [List.length_map, mix_len joinP_len, partsTo_len]; omega) | (rw [mix_len joinP_len, partsTo_len]; omega) | (simp; omega) | (simp; done))) ?_
  refine ks_d rfl rfl rfl (opv_load rfl rfl Try.isAgg3 (by repeat (first | exact List.Mem.head _ | apply List.Mem.tail)) (by first | rfl | exact gx_map (by first | omega | (simp only [List.length_set, ownL_len, partsTo_len, joinP_len]; omega)) | exact mixi_get (by first | exact joinP_len | (simp only [ownL_len, List.length_replicate])) (by first | omega | (simp only [ownL_len, partsTo_len, joinP_len, List.length_replicate]; omega)) | (simp; done)) rfl) ?_
  refine ks_d rfl rfl rfl (opv_move rfl rfl) ?_
  refine ks_d rfl rfl rfl (opv_move rfl rfl) ?_
  refine ks_d rfl rfl rfl (opv_ia rfl rfl rfl Try.runUnderlying39 Try.sizeOf3 (by repeat (first | exact List.Mem.head _ | apply List.Mem.tail)) (by first | rfl | exact (Int.toNat_of_nonneg (by omega)).symm) (by first | omega | (simp only [List.length_map]; omega) | (simp only [List.length_set, List.length_map, ownL_len, partsTo_len, joinP_len]; omega) | (rw [mix_len joinP_len]; omega) | (rw [List.length_map, mix_len joinP_len]; omega) | (rw [mix_len (by simp [ownL_len])]; simp only [List.length_replicate]; omega) | (rw [List.length_map, mix_len (by simp [ownL_len])]; simp only [List.length_replicate]; omega) | (rw [List.length_map, mix_len joinP_len, partsTo_len]; omega) | (rw [mix_len joinP_len, partsTo_len]; omega) | (simp; omega) | (simp; done))) ?_
  refine ks_d rfl rfl rfl (opv_load rfl rfl Try.isAgg3 (by repeat (first | exact List.Mem.head _ | apply List.Mem.tail)) (by first | rfl | exact gx_map (by first | omega | (simp only [List.length_set, ownL_len, partsTo_len, joinP_len]; omega)) | exact mixi_get (by first | exact joinP_len | (simp only [ownL_len, List.length_replicate])) (by first | omega | (simp only [ownL_len, partsTo_len, joinP_len, List.length_replicate]; omega)) | (simp; done)) rfl) ?_
  refine ks_d rfl rfl rfl (opv_max rfl rfl rfl) ?_
  refine ks_d rfl rfl rfl (opv_assign rfl rfl) ?_
  refine ks_d rfl rfl rfl (opv_assign rfl rfl) ?_
  refine ks_nil ?_
  refine kn_then ?_
  refine kwp_seq ?_
  refine kwp_seq ?_
  refine kwp_region ?_
  refine kops_d rfl rfl (opv_move rfl rfl) ?_
  refine kops_d rfl rfl (opv_move rfl rfl) ?_
  refine kops_d rfl rfl (opv_cmp rfl rfl rfl rfl) ?_
  refine kops_nil ?_
  refine kn_then ?_
  refine kwp_cond rfl (fun hc2 => ?_) (fun hc2 => ?_)
  ·
    first | have hc2n := kb_nt hc2 | have hc2n := kb_nf hc2 | have hc2n := hc2
    first | have hc2m := of_decide_eq_true hc2n | have hc2m := of_decide_eq_false hc2n | have hc2m := kb_eq hc2n | have hc2m := kb_ne hc2n | have hc2m := kb_bne hc2n | have hc2m := kb_nbne hc2n | have hc2m := isIx_t hc2n | have hc2m := isIx_f hc2n | have hc2m := inR_t hc2n | have hc2m := inR_f hc2n | have hc2m := dec_tt hc2n | have hc2m := dec_ff hc2n | have hc2m := hc2n
    try simp only [List.get_eq_getElem] at hc2n
    try simp only [List.get_eq_getElem] at hc2m
    try have hjg := joinP_gx (L := L) (a := a.toNat) (b := b.toNat) (i := k) (by omega)
    refine kwp_seq ?_
    refine kwp_region ?_
    refine kops_d rfl rfl (opv_assign rfl rfl) ?_
    refine kops_nil ?_
    refine kn_then ?_
    refine kwp_ret ?_
    refine kr_then ?_
    first
      | (refine kret1 [⟨.slice a0 L.length c, 1, (joinP L a.toNat b.toNat).map encI⟩] rfl rfl ?_ (by (refine Sub.chunk (by repeat (first | exact Pick.here | apply Pick.there)) (by first | rw [mix_end (by rw [joinP_len]; omega) (by omega)] | rw [joinP_same (by omega)]) (Sub.nil _)))
         exact ⟨by first | rw [decide_eq_true (by omega)] | rw [decide_eq_false (by omega)], rfl⟩
         done)
  ·
    first | have hc2n := kb_nt hc2 | have hc2n := kb_nf hc2 | have hc2n := hc2
    first | have hc2m := of_decide_eq_true hc2n | have hc2m := of_decide_eq_false hc2n | have hc2m := kb_eq hc2n | have hc2m := kb_ne hc2n | have hc2m := kb_bne hc2n | have hc2m := kb_nbne hc2n | have hc2m := isIx_t hc2n | have hc2m := isIx_f hc2n | have hc2m := inR_t hc2n | have hc2m := inR_f hc2n | have hc2m := dec_tt hc2n | have hc2m := dec_ff hc2n | have hc2m := hc2n
    try simp only [List.get_eq_getElem] at hc2n
    try simp only [List.get_eq_getElem] at hc2m
    try have hjg := joinP_gx (L := L) (a := a.toNat) (b := b.toNat) (i := k) (by omega)
    refine kwp_skip ?_
    refine kn_then ?_
    refine kwp_seq ?_
    refine kwp_seq ?_
    refine kwp_region ?_
    refine kops_d rfl rfl (opv_move rfl rfl) ?_
    refine kops_d rfl rfl (opv_len rfl rfl rfl Try.runUnderlying39) ?_
    refine kops_d rfl rfl (opv_move rfl rfl) ?_
    refine kops_nil ?_
    refine kn_then ?_
    refine kwp_block ?_
    refine kwp_loop1 (inv := [(0, _), (6, _), (7, _), (8, _), (32, _), (33, _)]) (ic := [])
      (fun (k : Nat) => [(34, .int .i64 k)])
      (fun (k : Nat) => [⟨.slice a0 L.length c, 1, (mixL (joinP L a.toNat b.toNat) L k).map encI⟩])
      (fun (k : Nat) => k ≤ L.length)
      (fun (k : Nat) => L.length - k)
      ⟨0, ⟨by first | trivial | omega | (refine ⟨?_, ?_⟩ <;> omega) | (simp; done), by (repeat (first | exact Knows.nil _ | refine Knows.cons2 rfl (by first | rfl | (rw [mix_zero])) ?_)), by (repeat (first | exact Sub.refl _ | exact Sub.nil _ | refine Sub.chunk (by repeat (first | exact Pick.here | apply Pick.there)) (by first | rfl | (rw [mix_zero])) ?_))⟩⟩ (fun k hp => ?_)
    refine kwp_seq ?_
    refine kwp_region ?_
    refine kops_d rfl rfl (opv_cmp rfl rfl rfl rfl) ?_
    refine kops_nil ?_
    refine kn_then ?_
    refine kwp_seq ?_
    refine kwp_cond rfl (fun hc4 => ?_) (fun hc4 => ?_)
    ·
      first | have hc4n := kb_nt hc4 | have hc4n := kb_nf hc4 | have hc4n := hc4
      first | have hc4m := of_decide_eq_true hc4n | have hc4m := of_decide_eq_false hc4n | have hc4m := kb_eq hc4n | have hc4m := kb_ne hc4n | have hc4m := kb_bne hc4n | have hc4m := kb_nbne hc4n | have hc4m := isIx_t hc4n | have hc4m := isIx_f hc4n | have hc4m := inR_t hc4n | have hc4m := inR_f hc4n | have hc4m := dec_tt hc4n | have hc4m := dec_ff hc4n | have hc4m := hc4n
      try simp only [List.get_eq_getElem] at hc4n
      try simp only [List.get_eq_getElem] at hc4m
      try have hjg := joinP_gx (L := L) (a := a.toNat) (b := b.toNat) (i := k) (by omega)
      refine kwp_skip ?_
      refine kn_then ?_
      refine kwp_seq ?_
      refine kwp_block ?_
      refine kwp_seq ?_
      refine kwp_region ?_
      refine kops_d rfl rfl (opv_move rfl rfl) ?_
      refine kops_d rfl rfl (opv_ia rfl rfl rfl Try.runUnderlying39 Try.sizeOf3 (by repeat (first | exact List.Mem.head _ | apply List.Mem.tail)) (by first | rfl | exact (Int.toNat_of_nonneg (by omega)).symm) (by first | omega | (simp only [List.length_map]; omega) | (simp only [List.length_set, List.length_map, ownL_len, partsTo_len, joinP_len]; omega) | (rw [mix_len joinP_len]; omega) | (rw [List.length_map, mix_len joinP_len]; omega) | (rw [mix_len (by simp [ownL_len])]; simp only [List.length_replicate]; omega) | (rw [List.length_map, mix_len (by simp [ownL_len])]; simp only [List.length_replicate]; omega) | (rw [List.length_map, mix_len joinP_len, partsTo_len]; omega) | (rw [mix_len joinP_len, partsTo_len]; omega) | (simp; omega) | (simp; done))) ?_
      refine kops_d rfl rfl (opv_load rfl rfl Try.isAgg3 (by repeat (first | exact List.Mem.head _ | apply List.Mem.tail)) (by first | rfl | exact gx_map (by first | omega | (simp only [List.length_set, ownL_len, partsTo_len, joinP_len]; omega)) | exact mixi_get (by first | exact joinP_len | (simp only [ownL_len, List.length_replicate])) (by first | omega | (simp only [ownL_len, partsTo_len, joinP_len, List.length_replicate]; omega)) | (simp; done)) rfl) ?_
      refine kops_d rfl rfl (opv_assign rfl rfl) ?_
      refine kops_d rfl rfl (opv_assign rfl rfl) ?_
      refine kops_nil ?_
      refine kn_then ?_
      refine kwp_seq ?_
      refine kwp_region ?_
      refine kops_d rfl rfl (opv_move rfl rfl) ?_
      refine kops_d rfl rfl (opv_move rfl rfl) ?_
      refine kops_d rfl rfl (opv_cmp rfl rfl rfl rfl) ?_
      refine kops_nil ?_
      refine kn_then ?_
      refine kwp_cond rfl (fun hc6 => ?_) (fun hc6 => ?_)
      ·
        first | have hc6n := kb_nt hc6 | have hc6n := kb_nf hc6 | have hc6n := hc6
        first | have hc6m := of_decide_eq_true hc6n | have hc6m := of_decide_eq_false hc6n | have hc6m := kb_eq hc6n | have hc6m := kb_ne hc6n | have hc6m := kb_bne hc6n | have hc6m := kb_nbne hc6n | have hc6m := isIx_t hc6n | have hc6m := isIx_f hc6n | have hc6m := inR_t hc6n | have hc6m := inR_f hc6n | have hc6m := dec_tt hc6n | have hc6m := dec_ff hc6n | have hc6m := hc6n
        try simp only [List.get_eq_getElem] at hc6n
        try simp only [List.get_eq_getElem] at hc6m
        try have hjg := joinP_gx (L := L) (a := a.toNat) (b := b.toNat) (i := k) (by omega)
        refine kwp_region ?_
        refine kops_d rfl rfl (opv_move rfl rfl) ?_
        refine kops_d rfl rfl (opv_move rfl rfl) ?_
        refine kops_d rfl rfl (opv_move rfl rfl) ?_
        refine kops_d rfl rfl (opv_ia rfl rfl rfl Try.runUnderlying39 Try.sizeOf3 (by repeat (first | exact List.Mem.head _ | apply List.Mem.tail)) (by first | rfl | exact (Int.toNat_of_nonneg (by omega)).symm) (by first | omega | (simp only [List.length_map]; omega) | (simp only [List.length_set, List.length_map, ownL_len, partsTo_len, joinP_len]; omega) | (rw [mix_len joinP_len]; omega) | (rw [List.length_map, mix_len joinP_len]; omega) | (rw [mix_len (by simp [ownL_len])]; simp only [List.length_replicate]; omega) | (rw [List.length_map, mix_len (by simp [ownL_len])]; simp only [List.length_replicate]; omega) | (rw [List.length_map, mix_len joinP_len, partsTo_len]; omega) | (rw [mix_len joinP_len, partsTo_len]; omega) | (simp; omega) | (simp; done))) ?_
        first | refine kops_step rfl (opk_store_i rfl rfl rfl Try.sizeOf3 (by repeat (first | exact Upd.here | apply Upd.there)) (by first | omega | (simp only [List.length_map]; omega) | (simp only [List.length_set, List.length_map, ownL_len, partsTo_len, joinP_len]; omega) | (rw [mix_len joinP_len]; omega) | (rw [List.length_map, mix_len joinP_len]; omega) | (rw [mix_len (by simp [ownL_len])]; simp only [List.length_replicate]; omega) | (rw [List.length_map, mix_len (by simp [ownL_len])]; simp only [List.length_replicate]; omega) | (rw [List.length_map, mix_len joinP_len, partsTo_len]; omega) | (rw [mix_len joinP_len, partsTo_len]; omega) | (simp; omega) | (simp; done)) ?_) | refine kops_step rfl (opk_store rfl rfl rfl Try.sizeOf3 rfl (by repeat (first | exact Upd.here | apply Upd.there)) (by first | rfl | exact gx_map (by first | omega | (simp only [List.length_set, ownL_len, partsTo_len, joinP_len]; omega)) | exact mixi_get (by first | exact joinP_len | (simp only [ownL_len, List.length_replicate])) (by first | omega | (simp only [ownL_len, partsTo_len, joinP_len, List.length_replicate]; omega)) | (simp; done)) (by decide) ?_)
        refine kops_nil ?_
        refine kn_block ?_
        refine kn_then ?_
        refine kwp_region ?_
        refine kops_d rfl rfl (by first | exact opv_add rfl rfl rfl ⟨by omega, by omega⟩ | exact opv_ari rfl rfl rfl rfl) ?_
        refine kops_d rfl rfl (opv_move rfl rfl) ?_
        refine kops_nil ?_
        refine kn_then ?_
        exact ⟨k + 1, ⟨by first | trivial | omega | (refine ⟨?_, ?_⟩ <;> omega) | (simp; done), by (repeat (first | exact Knows.nil _ | refine Knows.cons2 rfl (by first | rfl | (congr 1; omega) | exact mixi_set joinP_len (by omega) (by rw [hjg, if_pos (by omega)]) | exact mixi_skip joinP_len (by omega) (by rw [hjg, if_neg (by omega)])) ?_)), by (repeat (first | exact Sub.refl _ | exact Sub.nil _ | refine Sub.chunk (by repeat (first | exact Pick.here | apply Pick.there)) (by first | rfl | (congr 1; omega) | exact mixi_set joinP_len (by omega) (by rw [hjg, if_pos (by omega)]) | exact mixi_skip joinP_len (by omega) (by rw [hjg, if_neg (by omega)])) ?_))⟩, by omega⟩
      ·
        first | have hc6n := kb_nt hc6 | have hc6n := kb_nf hc6 | have hc6n := hc6
        first | have hc6m := of_decide_eq_true hc6n | have hc6m := of_decide_eq_false hc6n | have hc6m := kb_eq hc6n | have hc6m := kb_ne hc6n | have hc6m := kb_bne hc6n | have hc6m := kb_nbne hc6n | have hc6m := isIx_t hc6n | have hc6m := isIx_f hc6n | have hc6m := inR_t hc6n | have hc6m := inR_f hc6n | have hc6m := dec_tt hc6n | have hc6m := dec_ff hc6n | have hc6m := hc6n
        try simp only [List.get_eq_getElem] at hc6n
        try simp only [List.get_eq_getElem] at hc6m
        try have hjg := joinP_gx (L := L) (a := a.toNat) (b := b.toNat) (i := k) (by omega)
        refine kwp_skip ?_
        refine kn_block ?_
        refine kn_then ?_
        refine kwp_region ?_
        refine kops_d rfl rfl (by first | exact opv_add rfl rfl rfl ⟨by omega, by omega⟩ | exact opv_ari rfl rfl rfl rfl) ?_
        refine kops_d rfl rfl (opv_move rfl rfl) ?_
        refine kops_nil ?_
        refine kn_then ?_
        exact ⟨k + 1, ⟨by first | trivial | omega | (refine ⟨?_, ?_⟩ <;> omega) | (simp; done), by (repeat (first | exact Knows.nil _ | refine Knows.cons2 rfl (by first | rfl | (congr 1; omega) | exact mixi_set joinP_len (by omega) (by rw [hjg, if_pos (by omega)]) | exact mixi_skip joinP_len (by omega) (by rw [hjg, if_neg (by omega)])) ?_)), by (repeat (first | exact Sub.refl _ | exact Sub.nil _ | refine Sub.chunk (by repeat (first | exact Pick.here | apply Pick.there)) (by first | rfl | (congr 1; omega) | exact mixi_set joinP_len (by omega) (by rw [hjg, if_pos (by omega)]) | exact mixi_skip joinP_len (by omega) (by rw [hjg, if_neg (by omega)])) ?_))⟩, by omega⟩
    ·
      first | have hc4n := kb_nt hc4 | have hc4n := kb_nf hc4 | have hc4n := hc4
      first | have hc4m := of_decide_eq_true hc4n | have hc4m := of_decide_eq_false hc4n | have hc4m := kb_eq hc4n | have hc4m := kb_ne hc4n | have hc4m := kb_bne hc4n | have hc4m := kb_nbne hc4n | have hc4m := isIx_t hc4n | have hc4m := isIx_f hc4n | have hc4m := inR_t hc4n | have hc4m := inR_f hc4n | have hc4m := dec_tt hc4n | have hc4m := dec_ff hc4n | have hc4m := hc4n
      try simp only [List.get_eq_getElem] at hc4n
      try simp only [List.get_eq_getElem] at hc4m
      try have hjg := joinP_gx (L := L) (a := a.toNat) (b := b.toNat) (i := k) (by omega)
      refine kwp_exit ?_
      refine ke_then ?_
      refine ke_then ?_
      refine ke_block ?_
      refine kn_then ?_
      refine kwp_seq ?_
      refine kwp_region ?_
      refine kops_d rfl rfl (opv_assign rfl rfl) ?_
      refine kops_nil ?_
      refine kn_then ?_
      refine kwp_ret ?_
      first
        | (refine kret1 [⟨.slice a0 L.length c, 1, (joinP L a.toNat b.toNat).map encI⟩] rfl rfl ?_ (by (refine Sub.chunk (by repeat (first | exact Pick.here | apply Pick.there)) (by first | rw [mix_end (by rw [joinP_len]; omega) (by omega)] | rw [joinP_same (by omega)]) (Sub.nil _)))
           exact ⟨by first | rw [decide_eq_true (by omega)] | rw [decide_eq_false (by omega)], rfl⟩
           done)

set_option maxRecDepth 20000 in
theorem c_impl_countParts (a0 : Option Addr) (n c : Nat) (L : List Int) (hn : n ≤ 1048576) :
    Triple Try.prog 75 [.slice a0 n c] [⟨.slice a0 n c, 1, L.map encI⟩] [] (fun r ch => r = .int .i64 (countTo L n) ∧ ch = []) := by
  refine triple_start 20 Try.func75 Try.ntmps75 rfl rfl (fun w0 => ?_)
  refine kwp_len (by repeat (first | exact List.Mem.head _ | apply List.Mem.tail)) (fun hl => ?_)
  simp only [List.length_map] at hl
  subst hl
  refine kwp_seq ?_
  refine kwp_region ?_
  refine kops_d rfl rfl (opv_assign rfl rfl) ?_
  refine kops_nil ?_
  refine kn_then ?_
  refine kwp_seq ?_
  refine kwp_region ?_
  refine kops_d rfl rfl (opv_assign rfl rfl) ?_
  refine kops_nil ?_
  refine kn_then ?_
  refine kwp_seq ?_
  refine kwp_seq ?_
  refine kwp_region ?_
  refine kops_d rfl rfl (opv_move rfl rfl) ?_
  refine kops_d rfl rfl (opv_len rfl rfl rfl Try.runUnderlying39) ?_
  refine kops_d rfl rfl (opv_move rfl rfl) ?_
  refine kops_nil ?_
  refine kn_then ?_
  refine kwp_block ?_
  refine kwp_loop1 (inv := [(2, _), (6, _), (7, _)]) (ic := [])
    (fun (k : Nat) => [(3, .int .i64 (countTo L k)), (8, .int .i64 k)])
    (fun (k : Nat) => [])
    (fun (k : Nat) => k ≤ L.length)
    (fun (k : Nat) => L.length - k)
    ⟨0, ⟨by first | trivial | omega | (refine ⟨?_, ?_⟩ <;> omega) | (simp; done), by (repeat (first | exact Knows.nil _ | refine Knows.cons2 rfl (by first | rfl | (simp; done) | (congr 1; omega)) ?_)), by (repeat (first | exact Sub.refl _ | exact Sub.nil _ | refine Sub.chunk (by repeat (first | exact Pick.here | apply Pick.there)) (by first | rfl | (simp; done) | (congr 1; omega)) ?_))⟩⟩ (fun k hp => ?_)
  refine kwp_seq ?_
  refine kwp_region ?_
  refine kops_d rfl rfl (opv_cmp rfl rfl rfl rfl) ?_
  refine kops_nil ?_
  refine kn_then ?_
  refine kwp_seq ?_
  refine kwp_cond rfl (fun hc2 => ?_) (fun hc2 => ?_)
  ·
    first | have hc2n := kb_nt hc2 | have hc2n := kb_nf hc2 | have hc2n := hc2
    first | have hc2m := of_decide_eq_true hc2n | have hc2m := of_decide_eq_false hc2n | have hc2m := kb_eq hc2n | have hc2m := kb_ne hc2n | have hc2m := kb_bne hc2n | have hc2m := kb_nbne hc2n | have hc2m := isIx_t hc2n | have hc2m := isIx_f hc2n | have hc2m := inR_t hc2n | have hc2m := inR_f hc2n | have hc2m := dec_tt hc2n | have hc2m := dec_ff hc2n | have hc2m := hc2n
    try simp only [List.get_eq_getElem] at hc2n
    try simp only [List.get_eq_getElem] at hc2m
    try have hcb := countTo_bd (L := L) (k := k)
    refine kwp_skip ?_
    refine kn_then ?_
    refine kwp_seq ?_
    refine kwp_block ?_
    refine kwp_seq ?_
    refine kwp_region ?_
    refine kops_d rfl rfl (opv_move rfl rfl) ?_
    refine kops_d rfl rfl (opv_ia rfl rfl rfl Try.runUnderlying39 Try.sizeOf3 (by repeat (first | exact List.Mem.head _ | apply List.Mem.tail)) (by first | rfl | exact (Int.toNat_of_nonneg (by omega)).symm) (by first | omega | (simp only [List.length_map]; omega) | (simp only [List.length_set, List.length_map, ownL_len, partsTo_len, joinP_len]; omega) | (rw [mix_len joinP_len]; omega) | (rw [List.length_map, mix_len joinP_len]; omega) | (rw [mix_len (by simp [ownL_len])]; simp only [List.length_replicate]; omega) | (rw [List.length_map, mix_len (by simp [ownL_len])]; simp only [List.length_replicate]; omega) | (rw [List.length_map, mix_len joinP_len, partsTo_len]; omega) | (rw [mix_len joinP_len, partsTo_len]; omega) | (simp; omega) | (simp; done))) ?_
    refine kops_d rfl rfl (opv_load rfl rfl Try.isAgg3 (by repeat (first | exact List.Mem.head _ | apply List.Mem.tail)) (by first | rfl | exact gx_map (by first | omega | (simp only [List.length_set, ownL_len, partsTo_len, joinP_len]; omega)) | exact mixi_get (by first | exact joinP_len | (simp only [ownL_len, List.length_replicate])) (by first | omega | (simp only [ownL_len, partsTo_len, joinP_len, List.length_replicate]; omega)) | (simp; done)) rfl) ?_
    refine kops_d rfl rfl (opv_assign rfl rfl) ?_
    refine kops_d rfl rfl (opv_assign rfl rfl) ?_
    refine kops_nil ?_
    refine kn_then ?_
    refine kwp_seq ?_
    refine kwp_region ?_
    refine kops_d rfl rfl (opv_move rfl rfl) ?_
    refine kops_d rfl rfl (opv_move rfl rfl) ?_
    refine kops_d rfl rfl (opv_cmp rfl rfl rfl rfl) ?_
    refine kops_nil ?_
    refine kn_then ?_
    refine kwp_cond rfl (fun hc4 => ?_) (fun hc4 => ?_)
    ·
      first | have hc4n := kb_nt hc4 | have hc4n := kb_nf hc4 | have hc4n := hc4
      first | have hc4m := of_decide_eq_true hc4n | have hc4m := of_decide_eq_false hc4n | have hc4m := kb_eq hc4n | have hc4m := kb_ne hc4n | have hc4m := kb_bne hc4n | have hc4m := kb_nbne hc4n | have hc4m := isIx_t hc4n | have hc4m := isIx_f hc4n | have hc4m := inR_t hc4n | have hc4m := inR_f hc4n | have hc4m := dec_tt hc4n | have hc4m := dec_ff hc4n | have hc4m := hc4n
      try simp only [List.get_eq_getElem] at hc4n
      try simp only [List.get_eq_getElem] at hc4m
      try have hcb := countTo_bd (L := L) (k := k)
      refine kwp_region ?_
      refine kops_d rfl rfl (opv_move rfl rfl) ?_
      refine kops_d rfl rfl (by first | exact opv_add rfl rfl rfl ⟨by omega, by omega⟩ | exact opv_ari rfl rfl rfl rfl) ?_
      refine kops_d rfl rfl (opv_assign rfl rfl) ?_
      refine kops_nil ?_
      refine kn_block ?_
      refine kn_then ?_
      refine kwp_region ?_
      refine kops_d rfl rfl (by first | exact opv_add rfl rfl rfl ⟨by omega, by omega⟩ | exact opv_ari rfl rfl rfl rfl) ?_
      refine kops_d rfl rfl (opv_move rfl rfl) ?_
      refine kops_nil ?_
      refine kn_then ?_
      exact ⟨k + 1, ⟨by first | trivial | omega | (refine ⟨?_, ?_⟩ <;> omega) | (simp; done), by (repeat (first | exact Knows.nil _ | refine Knows.cons2 rfl (by first | rfl | (congr 1; omega) | exact congrArg _ (countTo_t (by omega)) | exact congrArg _ (countTo_f (by omega))) ?_)), by (repeat (first | exact Sub.refl _ | exact Sub.nil _ | refine Sub.chunk (by repeat (first | exact Pick.here | apply Pick.there)) (by first | rfl | (congr 1; omega) | exact congrArg _ (countTo_t (by omega)) | exact congrArg _ (countTo_f (by omega))) ?_))⟩, by omega⟩
    ·
      first | have hc4n := kb_nt hc4 | have hc4n := kb_nf hc4 | have hc4n := hc4
      first | have hc4m := of_decide_eq_true hc4n | have hc4m := of_decide_eq_false hc4n | have hc4m := kb_eq hc4n | have hc4m := kb_ne hc4n | have hc4m := kb_bne hc4n | have hc4m := kb_nbne hc4n | have hc4m := isIx_t hc4n | have hc4m := isIx_f hc4n | have hc4m := inR_t hc4n | have hc4m := inR_f hc4n | have hc4m := dec_tt hc4n | have hc4m := dec_ff hc4n | have hc4m := hc4n
      try simp only [List.get_eq_getElem] at hc4n
      try simp only [List.get_eq_getElem] at hc4m
      try have hcb := countTo_bd (L := L) (k := k)
      refine kwp_skip ?_
      refine kn_block ?_
      refine kn_then ?_
      refine kwp_region ?_
      refine kops_d rfl rfl (by first | exact opv_add rfl rfl rfl ⟨by omega, by omega⟩ | exact opv_ari rfl rfl rfl rfl) ?_
      refine kops_d rfl rfl (opv_move rfl rfl) ?_
      refine kops_nil ?_
      refine kn_then ?_
      exact ⟨k + 1, ⟨by first | trivial | omega | (refine ⟨?_, ?_⟩ <;> omega) | (simp; done), by (repeat (first | exact Knows.nil _ | refine Knows.cons2 rfl (by first | rfl | (congr 1; omega) | exact congrArg _ (countTo_t (by omega)) | exact congrArg _ (countTo_f (by omega))) ?_)), by (repeat (first | exact Sub.refl _ | exact Sub.nil _ | refine Sub.chunk (by repeat (first | exact Pick.here | apply Pick.there)) (by first | rfl | (congr 1; omega) | exact congrArg _ (countTo_t (by omega)) | exact congrArg _ (countTo_f (by omega))) ?_))⟩, by omega⟩
  ·
    first | have hc2n := kb_nt hc2 | have hc2n := kb_nf hc2 | have hc2n := hc2
    first | have hc2m := of_decide_eq_true hc2n | have hc2m := of_decide_eq_false hc2n | have hc2m := kb_eq hc2n | have hc2m := kb_ne hc2n | have hc2m := kb_bne hc2n | have hc2m := kb_nbne hc2n | have hc2m := isIx_t hc2n | have hc2m := isIx_f hc2n | have hc2m := inR_t hc2n | have hc2m := inR_f hc2n | have hc2m := dec_tt hc2n | have hc2m := dec_ff hc2n | have hc2m := hc2n
    try simp only [List.get_eq_getElem] at hc2n
    try simp only [List.get_eq_getElem] at hc2m
    try have hcb := countTo_bd (L := L) (k := k)
    refine kwp_exit ?_
    refine ke_then ?_
    refine ke_then ?_
    refine ke_block ?_
    refine kn_then ?_
    refine kwp_seq ?_
    refine kwp_region ?_
    refine kops_d rfl rfl (opv_move rfl rfl) ?_
    refine kops_d rfl rfl (opv_assign rfl rfl) ?_
    refine kops_nil ?_
    refine kn_then ?_
    refine kwp_ret ?_
    refine kret1 [] rfl rfl ?_ (by (repeat (first | exact Sub.refl _ | exact Sub.nil _ | refine Sub.chunk (by repeat (first | exact Pick.here | apply Pick.there)) (by first | rfl | (simp; done) | (congr 1; omega)) ?_)))
    exact ⟨by rw [show k = L.length by omega], rfl⟩

end Go.Proofs.Ytfgialdcilldiaa
