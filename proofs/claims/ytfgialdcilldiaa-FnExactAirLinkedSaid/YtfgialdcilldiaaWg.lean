/- The walks of some functions, each by its contract; conditions: those that each contract names. -/
import Derived.Test.YtfgialdcilldiaaWf
import Derived.Test.YtfgialdcilldiaaPb
namespace Go.Proofs.Ytfgialdcilldiaa
open Go
set_option linter.unusedVariables false
set_option linter.unusedSimpArgs false


set_option maxRecDepth 20000 in
theorem c_laws_markAirwayS (a : Option Addr) (n c : Nat) (l : List Airway) (k0 : Int) (hk0 : 0 ≤ k0 ∧ k0 ≤ 1099511627776) (hn : n ≤ 1099511627776) :
    Triple Try.prog 68 [.slice a n c, .int .i64 k0] [] [⟨.slice a n c, 3, l.map encAirway⟩] (fun r ch => r = .int .i64 (k0 + 3 * n) ∧ ch = [⟨.slice a n c, 3, (markA n k0).map encAirway⟩]) := by
  refine triple_start 34 Try.func68 Try.ntmps68 rfl rfl (fun w0 => ?_)
  refine kwp_len (by repeat (first | exact List.Mem.head _ | apply List.Mem.tail)) (fun hn => ?_)
  simp only [List.length_map] at hn
  subst hn
  refine kwp_seq ?_
  refine kwp_region ?_
  refine kops_d rfl rfl (opv_assign rfl rfl) ?_
  refine kops_nil ?_
  refine kn_then ?_
  refine kwp_seq ?_
  refine kwp_seq ?_
  refine kwp_region ?_
  refine kops_d rfl rfl (opv_assign rfl rfl) ?_
  refine kops_nil ?_
  refine kn_then ?_
  refine kwp_block ?_
  refine kwp_loop1 (inv := [(0, _), (4, _)]) (ic := [])
    (fun (i : Nat) => [(1, .int .i64 (k0 + 3 * (i : Int))), (5, .int .i64 i)])
    (fun (i : Nat) => [⟨.slice a l.length c, 3, (mixL (markA l.length k0) l i).map encAirway⟩])
    (fun (i : Nat) => i ≤ l.length)
    (fun (i : Nat) => l.length - i)
    ⟨0, ⟨by first | trivial | omega | (refine ⟨?_, ?_⟩ <;> omega) | (simp; done), by (repeat (first | exact Knows.nil _ | refine Knows.cons2 rfl (by first | rfl | (rw [mix_zero]) | (congr 1; omega)) ?_)), by (repeat (first | exact Sub.refl _ | exact Sub.nil _ | refine Sub.chunk (by repeat (first | exact Pick.here | apply Pick.there)) (by first | rfl | (rw [mix_zero]) | (congr 1; omega)) ?_))⟩⟩ (fun i hp => ?_)
  refine kwp_seq ?_
  refine kwp_seq ?_
  refine kwp_region ?_
  refine kops_d rfl rfl (opv_move rfl rfl) ?_
  refine kops_d rfl rfl (opv_move rfl rfl) ?_
  refine kops_d rfl rfl (opv_len rfl rfl rfl Try.runUnderlying33) ?_
  refine kops_d rfl rfl (opv_cmp rfl rfl rfl rfl) ?_
  refine kops_nil ?_
  refine kn_then ?_
  refine kwp_cond rfl (fun hc2 => ?_) (fun hc2 => ?_)
  ·
    first | have hc2n := kb_nt hc2 | have hc2n := kb_nf hc2 | have hc2n := hc2
    first | have hc2m := of_decide_eq_true hc2n | have hc2m := of_decide_eq_false hc2n | have hc2m := kb_eq hc2n | have hc2m := kb_ne hc2n | have hc2m := kb_bne hc2n | have hc2m := kb_nbne hc2n | have hc2m := isIx_t hc2n | have hc2m := isIx_f hc2n | have hc2m := inR_t hc2n | have hc2m := inR_f hc2n | have hc2m := dec_tt hc2n | have hc2m := dec_ff hc2n | have hc2m := hc2n
    try simp only [List.get_eq_getElem] at hc2n
    try simp only [List.get_eq_getElem] at hc2m
    refine kwp_skip ?_
    refine kn_then ?_
    refine kwp_seq ?_
    refine kwp_block ?_
    refine kwp_seq ?_
    refine kwp_region ?_
    refine kops_d rfl rfl (opv_move rfl rfl) ?_
    refine kops_d rfl rfl (opv_move rfl rfl) ?_
    refine kops_d rfl rfl (opv_move rfl rfl) ?_
    refine kops_d rfl rfl (opv_ia rfl rfl rfl Try.runUnderlying33 Try.sizeOf77 (by repeat (first | exact List.Mem.head _ | apply List.Mem.tail)) (by first | rfl | exact (Int.toNat_of_nonneg (by omega)).symm) (by first | omega | (simp only [List.length_map]; omega) | (simp only [List.length_set, List.length_map, mix_len, markA_len]; omega) | (rw [fill_len (by omega)]; omega) | (simp; omega) | (simp; done))) ?_
    refine kops_d rfl rfl (opv_fa rfl rfl fa_77_0 (by repeat (first | exact List.Mem.head _ | apply List.Mem.tail)) (by first | omega | (simp only [List.length_map]; omega) | (simp only [List.length_set, List.length_map, mix_len, markA_len]; omega) | (rw [fill_len (by omega)]; omega) | (simp; omega) | (simp; done))) ?_
    refine kops_step rfl (opk_store rfl rfl rfl Try.sizeOf3 rfl (by repeat (first | exact Upd.here | apply Upd.there)) (by first | rfl | exact gx_map (by omega) | exact mix_get (markA_len) (by omega) | exact get_set_self (by simp only [List.length_set, List.length_map, mix_len, markA_len]; omega) | exact fill_get (by omega) | (simp; done)) (by decide) ?_)
    refine kops_nil ?_
    refine kn_then ?_
    refine kwp_seq ?_
    refine kwp_region ?_
    refine kops_d rfl rfl (opv_move rfl rfl) ?_
    refine kops_d rfl rfl (by first | exact opv_add rfl rfl rfl ⟨by omega, by omega⟩ | exact opv_ari rfl rfl rfl rfl) ?_
    refine kops_d rfl rfl (opv_assign rfl rfl) ?_
    refine kops_nil ?_
    refine kn_then ?_
    refine kwp_seq ?_
    refine kwp_region ?_
    refine kops_d rfl rfl (opv_move rfl rfl) ?_
    refine kops_d rfl rfl (opv_move rfl rfl) ?_
    refine kops_d rfl rfl (opv_move rfl rfl) ?_
    refine kops_d rfl rfl (opv_ia rfl rfl rfl Try.runUnderlying33 Try.sizeOf77 (by repeat (first | exact List.Mem.head _ | apply List.Mem.tail)) (by first | rfl | exact (Int.toNat_of_nonneg (by omega)).symm) (by first | omega | (simp only [List.length_map]; omega) | (simp only [List.length_set, List.length_map, mix_len, markA_len]; omega) | (rw [fill_len (by omega)]; omega) | (simp; omega) | (simp; done))) ?_
    refine kops_d rfl rfl (opv_fa rfl rfl fa_77_1 (by repeat (first | exact List.Mem.head _ | apply List.Mem.tail)) (by first | omega | (simp only [List.length_map]; omega) | (simp only [List.length_set, List.length_map, mix_len, markA_len]; omega) | (rw [fill_len (by omega)]; omega) | (simp; omega) | (simp; done))) ?_
    refine kops_step rfl (opk_store rfl rfl rfl Try.sizeOf3 rfl (by repeat (first | exact Upd.here | apply Upd.there)) (by first | rfl | exact gx_map (by omega) | exact mix_get (markA_len) (by omega) | exact get_set_self (by simp only [List.length_set, List.length_map, mix_len, markA_len]; omega) | exact fill_get (by omega) | (simp; done)) (by decide) ?_)
    refine kops_nil ?_
    refine kn_then ?_
    refine kwp_seq ?_
    refine kwp_region ?_
    refine kops_d rfl rfl (opv_move rfl rfl) ?_
    refine kops_d rfl rfl (by first | exact opv_add rfl rfl rfl ⟨by omega, by omega⟩ | exact opv_ari rfl rfl rfl rfl) ?_
    refine kops_d rfl rfl (opv_assign rfl rfl) ?_
    refine kops_nil ?_
    refine kn_then ?_
    refine kwp_seq ?_
    refine kwp_region ?_
    refine kops_d rfl rfl (opv_move rfl rfl) ?_
    refine kops_d rfl rfl (opv_move rfl rfl) ?_
    refine kops_d rfl rfl (opv_move rfl rfl) ?_
    refine kops_d rfl rfl (opv_ia rfl rfl rfl Try.runUnderlying33 Try.sizeOf77 (by repeat (first | exact List.Mem.head _ | apply List.Mem.tail)) (by first | rfl | exact (Int.toNat_of_nonneg (by omega)).symm) (by first | omega | (simp only [List.length_map]; omega) | (simp only [List.length_set, List.length_map, mix_len, markA_len]; omega) | (rw [fill_len (by omega)]; omega) | (simp; omega) | (simp; done))) ?_
    refine kops_d rfl rfl (opv_fa rfl rfl fa_77_2 (by repeat (first | exact List.Mem.head _ | apply List.Mem.tail)) (by first | omega | (simp only [List.length_map]; omega) | (simp only [List.length_set, List.length_map, mix_len, markA_len]; omega) | (rw [fill_len (by omega)]; omega) | (simp; omega) | (simp; done))) ?_
    refine kops_step rfl (opk_store rfl rfl rfl Try.sizeOf3 rfl (by repeat (first | exact Upd.here | apply Upd.there)) (by first | rfl | exact gx_map (by omega) | exact mix_get (markA_len) (by omega) | exact get_set_self (by simp only [List.length_set, List.length_map, mix_len, markA_len]; omega) | exact fill_get (by omega) | (simp; done)) (by decide) ?_)
    refine kops_nil ?_
    refine kn_then ?_
    refine kwp_region ?_
    refine kops_d rfl rfl (opv_move rfl rfl) ?_
    refine kops_d rfl rfl (by first | exact opv_add rfl rfl rfl ⟨by omega, by omega⟩ | exact opv_ari rfl rfl rfl rfl) ?_
    refine kops_d rfl rfl (opv_assign rfl rfl) ?_
    refine kops_nil ?_
    refine kn_block ?_
    refine kn_then ?_
    refine kwp_region ?_
    refine kops_d rfl rfl (opv_move rfl rfl) ?_
    refine kops_d rfl rfl (by first | exact opv_add rfl rfl rfl ⟨by omega, by omega⟩ | exact opv_ari rfl rfl rfl rfl) ?_
    refine kops_d rfl rfl (opv_assign rfl rfl) ?_
    refine kops_nil ?_
    refine kn_then ?_
    exact ⟨i + 1, ⟨by first | trivial | omega | (refine ⟨?_, ?_⟩ <;> omega) | (simp; done), by (repeat (first | exact Knows.nil _ | refine Knows.cons2 rfl (by first | rfl | (congr 1; omega) | (congr 1; push_cast; omega) | exact mix_set markA_len (by omega) (by rw [markA_gx (by omega)]; rfl) | (rw [List.set_set, List.set_set]; exact mix_set markA_len (by omega) (by rw [markA_gx (by omega)]; rfl))) ?_)), by (repeat (first | exact Sub.refl _ | exact Sub.nil _ | refine Sub.chunk (by repeat (first | exact Pick.here | apply Pick.there)) (by first | rfl | (congr 1; omega) | (congr 1; push_cast; omega) | exact mix_set markA_len (by omega) (by rw [markA_gx (by omega)]; rfl) | (rw [List.set_set, List.set_set]; exact mix_set markA_len (by omega) (by rw [markA_gx (by omega)]; rfl))) ?_))⟩, by omega⟩
  ·
    first | have hc2n := kb_nt hc2 | have hc2n := kb_nf hc2 | have hc2n := hc2
    first | have hc2m := of_decide_eq_true hc2n | have hc2m := of_decide_eq_false hc2n | have hc2m := kb_eq hc2n | have hc2m := kb_ne hc2n | have hc2m := kb_bne hc2n | have hc2m := kb_nbne hc2n | have hc2m := isIx_t hc2n | have hc2m := isIx_f hc2n | have hc2m := inR_t hc2n | have hc2m := inR_f hc2n | have hc2m := dec_tt hc2n | have hc2m := dec_ff hc2n | have hc2m := hc2n
    try simp only [List.get_eq_getElem] at hc2n
    try simp only [List.get_eq_getElem] at hc2m
    refine kwp_exit ?_
    refine ke_then ?_
    refine ke_then ?_
    refine ke_block ?_
    refine kn_then ?_
    refine kwp_seq ?_
    refine kwp_region ?_
    refine kops_d rfl rfl (opv_move rfl rfl) ?_
    refine kops_d rfl rfl (opv_assign rfl rfl) ?_
    refine kops_nil ?_
    refine kn_then ?_
    refine kwp_ret ?_
    refine kret1 [⟨.slice a l.length c, 3, (markA l.length k0).map encAirway⟩] rfl rfl ?_ (by (refine Sub.chunk (by repeat (first | exact Pick.here | apply Pick.there)) (by rw [mix_end (by rw [markA_len]; omega) (by omega)]) (Sub.nil _)))
    exact ⟨by rw [show i = l.length by omega], rfl⟩

set_option maxRecDepth 20000 in
theorem c_laws_heldAirwayS (a : Option Addr) (n c : Nat) (k0 : Int) (hk0 : 0 ≤ k0 ∧ k0 ≤ 1099511627776) (hn : n ≤ 1099511627776) :
    Triple Try.prog 69 [.slice a n c, .int .i64 k0] [⟨.slice a n c, 3, (markA n k0).map encAirway⟩] [] (fun r ch => r = .int .i64 (k0 + 3 * n) ∧ ch = []) := by
  refine triple_start 40 Try.func69 Try.ntmps69 rfl rfl (fun w0 => ?_)
  refine kwp_seq ?_
  refine kwp_region ?_
  refine kops_d rfl rfl (opv_assign rfl rfl) ?_
  refine kops_nil ?_
  refine kn_then ?_
  refine kwp_seq ?_
  refine kwp_seq ?_
  refine kwp_region ?_
  refine kops_d rfl rfl (opv_assign rfl rfl) ?_
  refine kops_nil ?_
  refine kn_then ?_
  refine kwp_block ?_
  refine kwp_loop1 (inv := [(0, _)]) (ic := [])
    (fun (i : Nat) => [(1, .int .i64 (k0 + 3 * (i : Int))), (5, .int .i64 i)])
    (fun (i : Nat) => [])
    (fun (i : Nat) => i ≤ n)
    (fun (i : Nat) => n - i)
    ⟨0, ⟨by first | trivial | omega | (refine ⟨?_, ?_⟩ <;> omega) | (simp; done), by (repeat (first | exact Knows.nil _ | refine Knows.cons2 rfl (by first | rfl | (congr 1; omega)) ?_)), by (repeat (first | exact Sub.refl _ | exact Sub.nil _ | refine Sub.chunk (by repeat (first | exact Pick.here | apply Pick.there)) (by first | rfl | (congr 1; omega)) ?_))⟩⟩ (fun i hp => ?_)
  refine kwp_seq ?_
  refine kwp_seq ?_
  refine kwp_region ?_
  refine kops_d rfl rfl (opv_move rfl rfl) ?_
  refine kops_d rfl rfl (opv_move rfl rfl) ?_
  refine kops_d rfl rfl (opv_len rfl rfl rfl Try.runUnderlying33) ?_
  refine kops_d rfl rfl (opv_cmp rfl rfl rfl rfl) ?_
  refine kops_nil ?_
  refine kn_then ?_
  refine kwp_cond rfl (fun hc2 => ?_) (fun hc2 => ?_)
  ·
    first | have hc2n := kb_nt hc2 | have hc2n := kb_nf hc2 | have hc2n := hc2
    first | have hc2m := of_decide_eq_true hc2n | have hc2m := of_decide_eq_false hc2n | have hc2m := kb_eq hc2n | have hc2m := kb_ne hc2n | have hc2m := kb_bne hc2n | have hc2m := kb_nbne hc2n | have hc2m := isIx_t hc2n | have hc2m := isIx_f hc2n | have hc2m := inR_t hc2n | have hc2m := inR_f hc2n | have hc2m := dec_tt hc2n | have hc2m := dec_ff hc2n | have hc2m := hc2n
    try simp only [List.get_eq_getElem] at hc2n
    try simp only [List.get_eq_getElem] at hc2m
    try (exfalso; first | omega | (simp_all; done); done)
    all_goals
      refine kwp_skip ?_
      refine kn_then ?_
      refine kwp_seq ?_
      refine kwp_block ?_
      refine kwp_seq ?_
      refine kwp_seq ?_
      refine kwp_region ?_
      refine kops_d rfl rfl (opv_move rfl rfl) ?_
      refine kops_d rfl rfl (opv_move rfl rfl) ?_
      refine kops_d rfl rfl (opv_ia rfl rfl rfl Try.runUnderlying33 Try.sizeOf77 (by repeat (first | exact List.Mem.head _ | apply List.Mem.tail)) (by first | rfl | exact (Int.toNat_of_nonneg (by omega)).symm) (by first | omega | (simp only [List.length_map, markA_len]; omega))) ?_
      refine kops_d rfl rfl (opv_fa rfl rfl fa_77_0 (by repeat (first | exact List.Mem.head _ | apply List.Mem.tail)) (by first | omega | (simp only [List.length_map, markA_len]; omega))) ?_
      refine kops_d rfl rfl (opv_load rfl rfl Try.isAgg3 (by repeat (first | exact List.Mem.head _ | apply List.Mem.tail)) (by first | rfl | exact markA_get (by omega) | (simp; done)) rfl) ?_
      refine kops_d rfl rfl (opv_move rfl rfl) ?_
      refine kops_d rfl rfl (opv_cmp rfl rfl rfl rfl) ?_
      refine kops_nil ?_
      refine kn_then ?_
      refine kwp_cond rfl (fun hc4 => ?_) (fun hc4 => ?_)
      ·
        first | have hc4n := kb_nt hc4 | have hc4n := kb_nf hc4 | have hc4n := hc4
        first | have hc4m := of_decide_eq_true hc4n | have hc4m := of_decide_eq_false hc4n | have hc4m := kb_eq hc4n | have hc4m := kb_ne hc4n | have hc4m := kb_bne hc4n | have hc4m := kb_nbne hc4n | have hc4m := isIx_t hc4n | have hc4m := isIx_f hc4n | have hc4m := inR_t hc4n | have hc4m := inR_f hc4n | have hc4m := dec_tt hc4n | have hc4m := dec_ff hc4n | have hc4m := hc4n
        try simp only [List.get_eq_getElem] at hc4n
        try simp only [List.get_eq_getElem] at hc4m
        try (exfalso; first | omega | (simp_all; done); done)
        all_goals
          refine kwp_seq ?_
          refine kwp_region ?_
          refine kops_d rfl rfl (opv_assign rfl rfl) ?_
          refine kops_nil ?_
          refine kn_then ?_
          refine kwp_ret ?_
          refine kr_then ?_
          refine kr_block ?_
          refine kr_then ?_
          refine kr_then ?_
          refine kr_block ?_
          refine kr_then ?_
          refine kret1 [] rfl rfl ?_ (by (repeat (first | exact Sub.refl _ | exact Sub.nil _ | refine Sub.chunk (by repeat (first | exact Pick.here | apply Pick.there)) (by first | rfl | (simp; done) | (congr 1; omega)) ?_)))
          exact ⟨by rw [show i = n by omega], rfl⟩
      ·
        first | have hc4n := kb_nt hc4 | have hc4n := kb_nf hc4 | have hc4n := hc4
        first | have hc4m := of_decide_eq_true hc4n | have hc4m := of_decide_eq_false hc4n | have hc4m := kb_eq hc4n | have hc4m := kb_ne hc4n | have hc4m := kb_bne hc4n | have hc4m := kb_nbne hc4n | have hc4m := isIx_t hc4n | have hc4m := isIx_f hc4n | have hc4m := inR_t hc4n | have hc4m := inR_f hc4n | have hc4m := dec_tt hc4n | have hc4m := dec_ff hc4n | have hc4m := hc4n
        try simp only [List.get_eq_getElem] at hc4n
        try simp only [List.get_eq_getElem] at hc4m
        try (exfalso; first | omega | (simp_all; done); done)
        all_goals
          refine kwp_skip ?_
          refine kn_then ?_
          refine kwp_seq ?_
          refine kwp_region ?_
          refine kops_d rfl rfl (opv_move rfl rfl) ?_
          refine kops_d rfl rfl (by first | exact opv_add rfl rfl rfl ⟨by omega, by omega⟩ | exact opv_ari rfl rfl rfl rfl) ?_
          refine kops_d rfl rfl (opv_assign rfl rfl) ?_
          refine kops_nil ?_
          refine kn_then ?_
          refine kwp_seq ?_
          refine kwp_seq ?_
          refine kwp_region ?_
          refine kops_d rfl rfl (opv_move rfl rfl) ?_
          refine kops_d rfl rfl (opv_move rfl rfl) ?_
          refine kops_d rfl rfl (opv_ia rfl rfl rfl Try.runUnderlying33 Try.sizeOf77 (by repeat (first | exact List.Mem.head _ | apply List.Mem.tail)) (by first | rfl | exact (Int.toNat_of_nonneg (by omega)).symm) (by first | omega | (simp only [List.length_map, markA_len]; omega))) ?_
          refine kops_d rfl rfl (opv_fa rfl rfl fa_77_1 (by repeat (first | exact List.Mem.head _ | apply List.Mem.tail)) (by first | omega | (simp only [List.length_map, markA_len]; omega))) ?_
          refine kops_d rfl rfl (opv_load rfl rfl Try.isAgg3 (by repeat (first | exact List.Mem.head _ | apply List.Mem.tail)) (by first | rfl | exact markA_get (by omega) | (simp; done)) rfl) ?_
          refine kops_d rfl rfl (opv_move rfl rfl) ?_
          refine kops_d rfl rfl (opv_cmp rfl rfl rfl rfl) ?_
          refine kops_nil ?_
          refine kn_then ?_
          refine kwp_cond rfl (fun hc6 => ?_) (fun hc6 => ?_)
          ·
            first | have hc6n := kb_nt hc6 | have hc6n := kb_nf hc6 | have hc6n := hc6
            first | have hc6m := of_decide_eq_true hc6n | have hc6m := of_decide_eq_false hc6n | have hc6m := kb_eq hc6n | have hc6m := kb_ne hc6n | have hc6m := kb_bne hc6n | have hc6m := kb_nbne hc6n | have hc6m := isIx_t hc6n | have hc6m := isIx_f hc6n | have hc6m := inR_t hc6n | have hc6m := inR_f hc6n | have hc6m := dec_tt hc6n | have hc6m := dec_ff hc6n | have hc6m := hc6n
            try simp only [List.get_eq_getElem] at hc6n
            try simp only [List.get_eq_getElem] at hc6m
            try (exfalso; first | omega | (simp_all; done); done)
            all_goals
              refine kwp_seq ?_
              refine kwp_region ?_
              refine kops_d rfl rfl (opv_assign rfl rfl) ?_
              refine kops_nil ?_
              refine kn_then ?_
              refine kwp_ret ?_
              refine kr_then ?_
              refine kr_block ?_
              refine kr_then ?_
              refine kr_then ?_
              refine kr_block ?_
              refine kr_then ?_
              refine kret1 [] rfl rfl ?_ (by (repeat (first | exact Sub.refl _ | exact Sub.nil _ | refine Sub.chunk (by repeat (first | exact Pick.here | apply Pick.there)) (by first | rfl | (simp; done) | (congr 1; omega)) ?_)))
              exact ⟨by rw [show i = n by omega], rfl⟩
          ·
            first | have hc6n := kb_nt hc6 | have hc6n := kb_nf hc6 | have hc6n := hc6
            first | have hc6m := of_decide_eq_true hc6n | have hc6m := of_decide_eq_false hc6n | have hc6m := kb_eq hc6n | have hc6m := kb_ne hc6n | have hc6m := kb_bne hc6n | have hc6m := kb_nbne hc6n | have hc6m := isIx_t hc6n | have hc6m := isIx_f hc6n | have hc6m := inR_t hc6n | have hc6m := inR_f hc6n | have hc6m := dec_tt hc6n | have hc6m := dec_ff hc6n | have hc6m := hc6n
            try simp only [List.get_eq_getElem] at hc6n
            try simp only [List.get_eq_getElem] at hc6m
            try (exfalso; first | omega | (simp_all; done); done)
            all_goals
              refine kwp_skip ?_
              refine kn_then ?_
              refine kwp_seq ?_
              refine kwp_region ?_
              refine kops_d rfl rfl (opv_move rfl rfl) ?_
              refine kops_d rfl rfl (by first | exact opv_add rfl rfl rfl ⟨by omega, by omega⟩ | exact opv_ari rfl rfl rfl rfl) ?_
              refine kops_d rfl rfl (opv_assign rfl rfl) ?_
              refine kops_nil ?_
              refine kn_then ?_
              refine kwp_seq ?_
              refine kwp_seq ?_
              refine kwp_region ?_
              refine kops_d rfl rfl (opv_move rfl rfl) ?_
              refine kops_d rfl rfl (opv_move rfl rfl) ?_
              refine kops_d rfl rfl (opv_ia rfl rfl rfl Try.runUnderlying33 Try.sizeOf77 (by repeat (first | exact List.Mem.head _ | apply List.Mem.tail)) (by first | rfl | exact (Int.toNat_of_nonneg (by omega)).symm) (by first | omega | (simp only [List.length_map, markA_len]; omega))) ?_
              refine kops_d rfl rfl (opv_fa rfl rfl fa_77_2 (by repeat (first | exact List.Mem.head _ | apply List.Mem.tail)) (by first | omega | (simp only [List.length_map, markA_len]; omega))) ?_
              refine kops_d rfl rfl (opv_load rfl rfl Try.isAgg3 (by repeat (first | exact List.Mem.head _ | apply List.Mem.tail)) (by first | rfl | exact markA_get (by omega) | (simp; done)) rfl) ?_
              refine kops_d rfl rfl (opv_move rfl rfl) ?_
              refine kops_d rfl rfl (opv_cmp rfl rfl rfl rfl) ?_
              refine kops_nil ?_
              refine kn_then ?_
              refine kwp_cond rfl (fun hc8 => ?_) (fun hc8 => ?_)
              ·
                first | have hc8n := kb_nt hc8 | have hc8n := kb_nf hc8 | have hc8n := hc8
                first | have hc8m := of_decide_eq_true hc8n | have hc8m := of_decide_eq_false hc8n | have hc8m := kb_eq hc8n | have hc8m := kb_ne hc8n | have hc8m := kb_bne hc8n | have hc8m := kb_nbne hc8n | have hc8m := isIx_t hc8n | have hc8m := isIx_f hc8n | have hc8m := inR_t hc8n | have hc8m := inR_f hc8n | have hc8m := dec_tt hc8n | have hc8m := dec_ff hc8n | have hc8m := hc8n
                try simp only [List.get_eq_getElem] at hc8n
                try simp only [List.get_eq_getElem] at hc8m
                try (exfalso; first | omega | (simp_all; done); done)
                all_goals
                  refine kwp_seq ?_
                  refine kwp_region ?_
                  refine kops_d rfl rfl (opv_assign rfl rfl) ?_
                  refine kops_nil ?_
                  refine kn_then ?_
                  refine kwp_ret ?_
                  refine kr_then ?_
                  refine kr_block ?_
                  refine kr_then ?_
                  refine kr_then ?_
                  refine kr_block ?_
                  refine kr_then ?_
                  refine kret1 [] rfl rfl ?_ (by (repeat (first | exact Sub.refl _ | exact Sub.nil _ | refine Sub.chunk (by repeat (first | exact Pick.here | apply Pick.there)) (by first | rfl | (simp; done) | (congr 1; omega)) ?_)))
                  exact ⟨by rw [show i = n by omega], rfl⟩
              ·
                first | have hc8n := kb_nt hc8 | have hc8n := kb_nf hc8 | have hc8n := hc8
                first | have hc8m := of_decide_eq_true hc8n | have hc8m := of_decide_eq_false hc8n | have hc8m := kb_eq hc8n | have hc8m := kb_ne hc8n | have hc8m := kb_bne hc8n | have hc8m := kb_nbne hc8n | have hc8m := isIx_t hc8n | have hc8m := isIx_f hc8n | have hc8m := inR_t hc8n | have hc8m := inR_f hc8n | have hc8m := dec_tt hc8n | have hc8m := dec_ff hc8n | have hc8m := hc8n
                try simp only [List.get_eq_getElem] at hc8n
                try simp only [List.get_eq_getElem] at hc8m
                try (exfalso; first | omega | (simp_all; done); done)
                all_goals
                  refine kwp_skip ?_
                  refine kn_then ?_
                  refine kwp_region ?_
                  refine kops_d rfl rfl (opv_move rfl rfl) ?_
                  refine kops_d rfl rfl (by first | exact opv_add rfl rfl rfl ⟨by omega, by omega⟩ | exact opv_ari rfl rfl rfl rfl) ?_
                  refine kops_d rfl rfl (opv_assign rfl rfl) ?_
                  refine kops_nil ?_
                  refine kn_block ?_
                  refine kn_then ?_
                  refine kwp_region ?_
                  refine kops_d rfl rfl (opv_move rfl rfl) ?_
                  refine kops_d rfl rfl (by first | exact opv_add rfl rfl rfl ⟨by omega, by omega⟩ | exact opv_ari rfl rfl rfl rfl) ?_
                  refine kops_d rfl rfl (opv_assign rfl rfl) ?_
                  refine kops_nil ?_
                  refine kn_then ?_
                  exact ⟨i + 1, ⟨by first | trivial | omega | (refine ⟨?_, ?_⟩ <;> omega) | (simp; done), by (repeat (first | exact Knows.nil _ | refine Knows.cons2 rfl (by first | rfl | (congr 1; omega) | (congr 1; push_cast; omega)) ?_)), by (repeat (first | exact Sub.refl _ | exact Sub.nil _ | refine Sub.chunk (by repeat (first | exact Pick.here | apply Pick.there)) (by first | rfl | (congr 1; omega) | (congr 1; push_cast; omega)) ?_))⟩, by omega⟩
  ·
    first | have hc2n := kb_nt hc2 | have hc2n := kb_nf hc2 | have hc2n := hc2
    first | have hc2m := of_decide_eq_true hc2n | have hc2m := of_decide_eq_false hc2n | have hc2m := kb_eq hc2n | have hc2m := kb_ne hc2n | have hc2m := kb_bne hc2n | have hc2m := kb_nbne hc2n | have hc2m := isIx_t hc2n | have hc2m := isIx_f hc2n | have hc2m := inR_t hc2n | have hc2m := inR_f hc2n | have hc2m := dec_tt hc2n | have hc2m := dec_ff hc2n | have hc2m := hc2n
    try simp only [List.get_eq_getElem] at hc2n
    try simp only [List.get_eq_getElem] at hc2m
    try (exfalso; first | omega | (simp_all; done); done)
    all_goals
      refine kwp_exit ?_
      refine ke_then ?_
      refine ke_then ?_
      refine ke_block ?_
      refine kn_then ?_
      refine kwp_seq ?_
      refine kwp_region ?_
      refine kops_d rfl rfl (opv_move rfl rfl) ?_
      refine kops_d rfl rfl (opv_assign rfl rfl) ?_
      refine kops_nil ?_
      refine kn_then ?_
      refine kwp_ret ?_
      refine kret1 [] rfl rfl ?_ (by (repeat (first | exact Sub.refl _ | exact Sub.nil _ | refine Sub.chunk (by repeat (first | exact Pick.here | apply Pick.there)) (by first | rfl | (simp; done) | (congr 1; omega)) ?_)))
      exact ⟨by rw [show i = n by omega], rfl⟩

set_option maxRecDepth 20000 in
theorem c_laws_markMine (p : Int) (a : Option Addr) (n c : Nat) (l : List Airway) (k0 : Int) (hk0 : 0 ≤ k0 ∧ k0 ≤ 1099511627776) (hn : n ≤ 1099511627776) :
    Triple Try.prog 34 [.agg #[.int .i64 p, .slice a n c], .int .i64 k0] [] [⟨.slice a n c, 3, l.map encAirway⟩] (fun r ch => r = .int .i64 (k0 + 3 * n) ∧ ch = [⟨.slice a n c, 3, (markA n k0).map encAirway⟩]) := by
  refine triple_start 10 Try.func34 Try.ntmps34 rfl rfl (fun w0 => ?_)
  refine kwp_seq ?_
  refine kwp_region ?_
  refine kops_step rfl (opk_box' (e := [_, _]) 2 rfl rfl rfl rfl (by decide) (fun p2 => ?_))
  refine kops_d rfl rfl (opv_assign rfl rfl) ?_
  refine kops_nil ?_
  refine kn_then ?_
  refine kwp_seq ?_
  refine kwp_region ?_
  refine kops_d rfl rfl (opv_fab rfl rfl fa_35_1 (by repeat (first | exact List.Mem.head _ | apply List.Mem.tail))) ?_
  refine kops_d rfl rfl (opv_load rfl rfl Try.isAgg33 (by repeat (first | exact List.Mem.head _ | apply List.Mem.tail)) (by first | rfl | exact get_map (by omega) | exact fill_get (by omega) | (simp; done)) rfl) ?_
  refine kops_d rfl rfl (opv_move rfl rfl) ?_
  refine kops_step rfl (opk_call rfl Try.call68 rfl (c_laws_markAirwayS _ _ _ _ _ ⟨by omega, by omega⟩ (by omega)) (perm_cons (by repeat (first | exact Pick.here | apply Pick.there)) ((perm_nil _))) ((Views.nil _)) ?_)
  rintro _ _ ⟨rfl, rfl⟩
  refine kops_d rfl rfl (opv_assign rfl rfl) ?_
  refine kops_nil ?_
  refine kn_then ?_
  refine kwp_seq ?_
  refine kwp_region ?_
  refine kops_d rfl rfl (opv_move rfl rfl) ?_
  refine kops_d rfl rfl (opv_assign rfl rfl) ?_
  refine kops_nil ?_
  refine kn_then ?_
  refine kwp_ret ?_
  refine kret1 [⟨.slice a n c, 3, (markA n k0).map encAirway⟩] rfl rfl ?_ (by (repeat (first | exact Sub.refl _ | exact Sub.nil _ | refine Sub.chunk (by repeat (first | exact Pick.here | apply Pick.there)) (by first | rfl | (simp; done) | (congr 1; omega)) ?_)))
  exact ⟨rfl, rfl⟩

set_option maxRecDepth 20000 in
theorem c_laws_heldMine (p : Int) (a : Option Addr) (n c : Nat) (k0 : Int) (hk0 : 0 ≤ k0 ∧ k0 ≤ 1099511627776) (hn : n ≤ 1099511627776) :
    Triple Try.prog 35 [.agg #[.int .i64 p, .slice a n c], .int .i64 k0] [⟨.slice a n c, 3, (markA n k0).map encAirway⟩] [] (fun r ch => r = .int .i64 (k0 + 3 * n) ∧ ch = []) := by
  refine triple_start 12 Try.func35 Try.ntmps35 rfl rfl (fun w0 => ?_)
  refine kwp_seq ?_
  refine kwp_region ?_
  refine kops_step rfl (opk_box' (e := [_, _]) 2 rfl rfl rfl rfl (by decide) (fun p2 => ?_))
  refine kops_d rfl rfl (opv_assign rfl rfl) ?_
  refine kops_nil ?_
  refine kn_then ?_
  refine kwp_seq ?_
  refine kwp_region ?_
  refine kops_d rfl rfl (opv_fab rfl rfl fa_35_1 (by repeat (first | exact List.Mem.head _ | apply List.Mem.tail))) ?_
  refine kops_d rfl rfl (opv_load rfl rfl Try.isAgg33 (by repeat (first | exact List.Mem.head _ | apply List.Mem.tail)) (by first | rfl | exact get_map (by omega) | exact fill_get (by omega) | (simp; done)) rfl) ?_
  refine kops_d rfl rfl (opv_move rfl rfl) ?_
  refine kops_step rfl (opk_call rfl Try.call69 rfl (c_laws_heldAirwayS _ _ _ _ ⟨by omega, by omega⟩ (by omega)) ((perm_nil _)) (Views.cons (by repeat (first | exact List.Mem.head _ | apply List.Mem.tail)) (View.refl _) ((Views.nil _))) ?_)
  rintro _ _ ⟨rfl, rfl⟩
  refine kops_d rfl rfl (opv_assign rfl rfl) ?_
  refine kops_nil ?_
  refine kn_then ?_
  refine kwp_seq ?_
  refine kwp_seq ?_
  refine kwp_region ?_
  refine kops_d rfl rfl (opv_move rfl rfl) ?_
  refine kops_d rfl rfl (opv_cmp rfl rfl rfl rfl) ?_
  refine kops_nil ?_
  refine kn_then ?_
  refine kwp_cond rfl (fun hc2 => ?_) (fun hc2 => ?_)
  ·
    first | have hc2n := kb_nt hc2 | have hc2n := kb_nf hc2 | have hc2n := hc2
    first | have hc2m := of_decide_eq_true hc2n | have hc2m := of_decide_eq_false hc2n | have hc2m := kb_eq hc2n | have hc2m := kb_ne hc2n | have hc2m := kb_bne hc2n | have hc2m := kb_nbne hc2n | have hc2m := isIx_t hc2n | have hc2m := isIx_f hc2n | have hc2m := inR_t hc2n | have hc2m := inR_f hc2n | have hc2m := dec_tt hc2n | have hc2m := dec_ff hc2n | have hc2m := hc2n
    try simp only [List.get_eq_getElem] at hc2n
    try simp only [List.get_eq_getElem] at hc2m
    try (exfalso; first | omega | (simp_all; done); done)
    all_goals
      refine kwp_seq ?_
      refine kwp_region ?_
      refine kops_d rfl rfl (opv_assign rfl rfl) ?_
      refine kops_nil ?_
      refine kn_then ?_
      refine kwp_ret ?_
      refine kr_then ?_
      refine kret1 [] rfl rfl ?_ (by (repeat (first | exact Sub.refl _ | exact Sub.nil _ | refine Sub.chunk (by repeat (first | exact Pick.here | apply Pick.there)) (by first | rfl | (simp; done) | (congr 1; omega)) ?_)))
      exact ⟨rfl, rfl⟩
  ·
    first | have hc2n := kb_nt hc2 | have hc2n := kb_nf hc2 | have hc2n := hc2
    first | have hc2m := of_decide_eq_true hc2n | have hc2m := of_decide_eq_false hc2n | have hc2m := kb_eq hc2n | have hc2m := kb_ne hc2n | have hc2m := kb_bne hc2n | have hc2m := kb_nbne hc2n | have hc2m := isIx_t hc2n | have hc2m := isIx_f hc2n | have hc2m := inR_t hc2n | have hc2m := inR_f hc2n | have hc2m := dec_tt hc2n | have hc2m := dec_ff hc2n | have hc2m := hc2n
    try simp only [List.get_eq_getElem] at hc2n
    try simp only [List.get_eq_getElem] at hc2m
    try (exfalso; first | omega | (simp_all; done); done)
    all_goals
      refine kwp_skip ?_
      refine kn_then ?_
      refine kwp_seq ?_
      refine kwp_region ?_
      refine kops_d rfl rfl (opv_move rfl rfl) ?_
      refine kops_d rfl rfl (opv_assign rfl rfl) ?_
      refine kops_nil ?_
      refine kn_then ?_
      refine kwp_ret ?_
      refine kret1 [] rfl rfl ?_ (by (repeat (first | exact Sub.refl _ | exact Sub.nil _ | refine Sub.chunk (by repeat (first | exact Pick.here | apply Pick.there)) (by first | rfl | (simp; done) | (congr 1; omega)) ?_)))
      exact ⟨rfl, rfl⟩

end Go.Proofs.Ytfgialdcilldiaa
