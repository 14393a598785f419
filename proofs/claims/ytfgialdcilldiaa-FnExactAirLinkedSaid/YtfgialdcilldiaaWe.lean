/- The walks of some functions, each by its contract; conditions: those that each contract names. -/
import Derived.Test.YtfgialdcilldiaaWd
namespace Go.Proofs.Ytfgialdcilldiaa
open Go
set_option linter.unusedVariables false
set_option linter.unusedSimpArgs false


set_option maxRecDepth 20000 in
theorem c_impl_CaveValid (af aa al : Option Addr) (nf cf na ca ns cs : Nat) (F A : List Int) (S : List Sill) (hb : nf ≤ 9223372036854775807 ∧ na ≤ 9223372036854775807 ∧ ns ≤ 9223372036854775807) :
    Triple Try.prog 26 [.agg #[.slice af nf cf, .slice aa na ca, .slice al ns cs]] [⟨.slice af nf cf, 1, F.map encI⟩, ⟨.slice aa na ca, 1, A.map encI⟩, ⟨.slice al ns cs, 3, S.map encSill⟩] [] (fun r ch => r = .bool (dec (CaveOk F A S)) ∧ ch = []) := by
  refine triple_start 113 Try.func26 Try.ntmps26 rfl rfl (fun w0 => ?_)
  refine kwp_len (List.Mem.head _) (fun hnf => ?_)
  refine kwp_len (List.Mem.tail _ (List.Mem.head _)) (fun hna => ?_)
  refine kwp_len (List.Mem.tail _ (List.Mem.tail _ (List.Mem.head _))) (fun hns => ?_)
  simp only [List.length_map] at hnf hna hns
  subst hnf hna hns
  refine kwp_seq ?_
  refine kwp_region ?_
  refine kops_step rfl (opk_box' (e := [_, _, _]) 3 rfl rfl rfl rfl (by decide) (fun p1 => ?_))
  refine kops_d rfl rfl (opv_assign rfl rfl) ?_
  refine kops_nil ?_
  refine kn_then ?_
  refine kwp_seq ?_
  refine kwp_region ?_
  refine kops_d rfl rfl (opv_fab rfl rfl fa_47_0 (by repeat (first | exact List.Mem.head _ | apply List.Mem.tail))) ?_
  refine kops_d rfl rfl (opv_load rfl rfl Try.isAgg39 (by repeat (first | exact List.Mem.head _ | apply List.Mem.tail)) (by first | rfl | exact gx_map (by omega) | exact fill_get (by omega) | (simp; done)) rfl) ?_
  refine kops_d rfl rfl (opv_len rfl rfl rfl Try.runUnderlying39) ?_
  refine kops_d rfl rfl (opv_assign rfl rfl) ?_
  refine kops_nil ?_
  refine kn_then ?_
  refine kwp_seq ?_
  refine kwp_seq ?_
  refine kwp_region ?_
  refine kops_d rfl rfl (opv_move rfl rfl) ?_
  refine kops_d rfl rfl (opv_cmp rfl rfl rfl rfl) ?_
  refine kops_d rfl rfl (opv_move rfl rfl) ?_
  refine kops_split 13 rfl (fun hb2 => ?_) (fun hb2 => ?_)
  ·
    first | have hb2n := kb_nt hb2 | have hb2n := kb_nf hb2 | have hb2n := hb2
    first | have hb2m := of_decide_eq_true hb2n | have hb2m := of_decide_eq_false hb2n | have hb2m := kb_eq hb2n | have hb2m := kb_ne hb2n | have hb2m := kb_bne hb2n | have hb2m := kb_nbne hb2n | have hb2m := isIx_t hb2n | have hb2m := isIx_f hb2n | have hb2m := inR_t hb2n | have hb2m := inR_f hb2n | have hb2m := dec_tt hb2n | have hb2m := dec_ff hb2n | have hb2m := hb2n
    try simp only [List.get_eq_getElem] at hb2n
    try simp only [List.get_eq_getElem] at hb2m
    refine kops_skip rfl rfl rfl hb2 ?_
    refine kops_skip rfl rfl rfl hb2 ?_
    refine kops_d rfl rfl (opv_pick_t rfl rfl rfl hb2) ?_
    refine kops_d rfl rfl (opv_move rfl rfl) ?_
    refine kops_skip rfl rfl rfl rfl ?_
    refine kops_skip rfl rfl rfl rfl ?_
    refine kops_skip rfl rfl rfl rfl ?_
    refine kops_skip rfl rfl rfl rfl ?_
    refine kops_skip rfl rfl rfl rfl ?_
    refine kops_d rfl rfl (opv_pick_t rfl rfl rfl rfl) ?_
    refine kops_d rfl rfl (opv_move rfl rfl) ?_
    refine kops_skip rfl rfl rfl rfl ?_
    refine kops_skip rfl rfl rfl rfl ?_
    refine kops_skip rfl rfl rfl rfl ?_
    refine kops_skip rfl rfl rfl rfl ?_
    refine kops_d rfl rfl (opv_pick_t rfl rfl rfl rfl) ?_
    refine kops_nil ?_
    refine kn_then ?_
    refine kwp_cond_t rfl rfl ?_
    refine kwp_seq ?_
    refine kwp_region ?_
    refine kops_d rfl rfl (opv_assign rfl rfl) ?_
    refine kops_nil ?_
    refine kn_then ?_
    refine kwp_ret ?_
    refine kr_then ?_
    refine kret1 [] rfl rfl ?_ (by (repeat (first | exact Sub.refl _ | exact Sub.nil _ | refine Sub.chunk (by repeat (first | exact Pick.here | apply Pick.there)) (by first | rfl | (simp; done) | (congr 1; omega)) ?_)))
    first | exact ⟨by rw [dec_t ⟨by omega, by omega, by omega, by omega, fun i hi => hfl i (by omega), fun i hi => har i (by omega), fun i hi => hsl i (by omega)⟩], rfl⟩ | exact ⟨by rw [dec_f (fun h => by have h1 := h.n1; have h2 := h.n6; have h3 := h.al; have h4 := h.s9; omega)], rfl⟩ | exact ⟨by rw [dec_f (fun h => by have h1 := h.fl k (by omega); have h2 := h.ar k (by omega); omega)], rfl⟩ | exact ⟨by rw [dec_f (fun h => by obtain ⟨h1, h2, h3, h4, h5, h6, h7, h8⟩ := h.sl j (by omega); first | omega | exact h5 (by assumption))], rfl⟩
  ·
    first | have hb2n := kb_nt hb2 | have hb2n := kb_nf hb2 | have hb2n := hb2
    first | have hb2m := of_decide_eq_true hb2n | have hb2m := of_decide_eq_false hb2n | have hb2m := kb_eq hb2n | have hb2m := kb_ne hb2n | have hb2m := kb_bne hb2n | have hb2m := kb_nbne hb2n | have hb2m := isIx_t hb2n | have hb2m := isIx_f hb2n | have hb2m := inR_t hb2n | have hb2m := inR_f hb2n | have hb2m := dec_tt hb2n | have hb2m := dec_ff hb2n | have hb2m := hb2n
    try simp only [List.get_eq_getElem] at hb2n
    try simp only [List.get_eq_getElem] at hb2m
    refine kops_gd rfl rfl rfl hb2 rfl (opv_move rfl rfl) ?_
    refine kops_gd rfl rfl rfl hb2 rfl (opv_cmp rfl rfl rfl rfl) ?_
    refine kops_d rfl rfl (opv_pick_f rfl rfl rfl hb2) ?_
    refine kops_d rfl rfl (opv_move rfl rfl) ?_
    refine kops_split 17 rfl (fun hb4 => ?_) (fun hb4 => ?_)
    ·
      first | have hb4n := kb_nt hb4 | have hb4n := kb_nf hb4 | have hb4n := hb4
      first | have hb4m := of_decide_eq_true hb4n | have hb4m := of_decide_eq_false hb4n | have hb4m := kb_eq hb4n | have hb4m := kb_ne hb4n | have hb4m := kb_bne hb4n | have hb4m := kb_nbne hb4n | have hb4m := isIx_t hb4n | have hb4m := isIx_f hb4n | have hb4m := inR_t hb4n | have hb4m := inR_f hb4n | have hb4m := dec_tt hb4n | have hb4m := dec_ff hb4n | have hb4m := hb4n
      try simp only [List.get_eq_getElem] at hb4n
      try simp only [List.get_eq_getElem] at hb4m
      refine kops_skip rfl rfl rfl hb4 ?_
      refine kops_skip rfl rfl rfl hb4 ?_
      refine kops_skip rfl rfl rfl hb4 ?_
      refine kops_skip rfl rfl rfl hb4 ?_
      refine kops_skip rfl rfl rfl hb4 ?_
      refine kops_d rfl rfl (opv_pick_t rfl rfl rfl hb4) ?_
      refine kops_d rfl rfl (opv_move rfl rfl) ?_
      refine kops_skip rfl rfl rfl rfl ?_
      refine kops_skip rfl rfl rfl rfl ?_
      refine kops_skip rfl rfl rfl rfl ?_
      refine kops_skip rfl rfl rfl rfl ?_
      refine kops_d rfl rfl (opv_pick_t rfl rfl rfl rfl) ?_
      refine kops_nil ?_
      refine kn_then ?_
      refine kwp_cond_t rfl rfl ?_
      refine kwp_seq ?_
      refine kwp_region ?_
      refine kops_d rfl rfl (opv_assign rfl rfl) ?_
      refine kops_nil ?_
      refine kn_then ?_
      refine kwp_ret ?_
      refine kr_then ?_
      refine kret1 [] rfl rfl ?_ (by (repeat (first | exact Sub.refl _ | exact Sub.nil _ | refine Sub.chunk (by repeat (first | exact Pick.here | apply Pick.there)) (by first | rfl | (simp; done) | (congr 1; omega)) ?_)))
      first | exact ⟨by rw [dec_t ⟨by omega, by omega, by omega, by omega, fun i hi => hfl i (by omega), fun i hi => har i (by omega), fun i hi => hsl i (by omega)⟩], rfl⟩ | exact ⟨by rw [dec_f (fun h => by have h1 := h.n1; have h2 := h.n6; have h3 := h.al; have h4 := h.s9; omega)], rfl⟩ | exact ⟨by rw [dec_f (fun h => by have h1 := h.fl k (by omega); have h2 := h.ar k (by omega); omega)], rfl⟩ | exact ⟨by rw [dec_f (fun h => by obtain ⟨h1, h2, h3, h4, h5, h6, h7, h8⟩ := h.sl j (by omega); first | omega | exact h5 (by assumption))], rfl⟩
    ·
      first | have hb4n := kb_nt hb4 | have hb4n := kb_nf hb4 | have hb4n := hb4
      first | have hb4m := of_decide_eq_true hb4n | have hb4m := of_decide_eq_false hb4n | have hb4m := kb_eq hb4n | have hb4m := kb_ne hb4n | have hb4m := kb_bne hb4n | have hb4m := kb_nbne hb4n | have hb4m := isIx_t hb4n | have hb4m := isIx_f hb4n | have hb4m := inR_t hb4n | have hb4m := inR_f hb4n | have hb4m := dec_tt hb4n | have hb4m := dec_ff hb4n | have hb4m := hb4n
      try simp only [List.get_eq_getElem] at hb4n
      try simp only [List.get_eq_getElem] at hb4m
      refine kops_gd rfl rfl rfl hb4 rfl (opv_fab rfl rfl fa_47_1 (by repeat (first | exact List.Mem.head _ | apply List.Mem.tail))) ?_
      refine kops_gd rfl rfl rfl hb4 rfl (opv_load rfl rfl Try.isAgg39 (by repeat (first | exact List.Mem.head _ | apply List.Mem.tail)) (by first | rfl | exact gx_map (by omega) | exact fill_get (by omega) | (simp; done)) rfl) ?_
      refine kops_gd rfl rfl rfl hb4 rfl (opv_len rfl rfl rfl Try.runUnderlying39) ?_
      refine kops_gd rfl rfl rfl hb4 rfl (opv_move rfl rfl) ?_
      refine kops_gd rfl rfl rfl hb4 rfl (opv_cmp rfl rfl rfl rfl) ?_
      refine kops_d rfl rfl (opv_pick_f rfl rfl rfl hb4) ?_
      refine kops_d rfl rfl (opv_move rfl rfl) ?_
      refine kops_split 24 rfl (fun hb6 => ?_) (fun hb6 => ?_)
      ·
        first | have hb6n := kb_nt hb6 | have hb6n := kb_nf hb6 | have hb6n := hb6
        first | have hb6m := of_decide_eq_true hb6n | have hb6m := of_decide_eq_false hb6n | have hb6m := kb_eq hb6n | have hb6m := kb_ne hb6n | have hb6m := kb_bne hb6n | have hb6m := kb_nbne hb6n | have hb6m := isIx_t hb6n | have hb6m := isIx_f hb6n | have hb6m := inR_t hb6n | have hb6m := inR_f hb6n | have hb6m := dec_tt hb6n | have hb6m := dec_ff hb6n | have hb6m := hb6n
        try simp only [List.get_eq_getElem] at hb6n
        try simp only [List.get_eq_getElem] at hb6m
        refine kops_skip rfl rfl rfl hb6 ?_
        refine kops_skip rfl rfl rfl hb6 ?_
        refine kops_skip rfl rfl rfl hb6 ?_
        refine kops_skip rfl rfl rfl hb6 ?_
        refine kops_d rfl rfl (opv_pick_t rfl rfl rfl hb6) ?_
        refine kops_nil ?_
        refine kn_then ?_
        refine kwp_cond_t rfl rfl ?_
        refine kwp_seq ?_
        refine kwp_region ?_
        refine kops_d rfl rfl (opv_assign rfl rfl) ?_
        refine kops_nil ?_
        refine kn_then ?_
        refine kwp_ret ?_
        refine kr_then ?_
        refine kret1 [] rfl rfl ?_ (by (repeat (first | exact Sub.refl _ | exact Sub.nil _ | refine Sub.chunk (by repeat (first | exact Pick.here | apply Pick.there)) (by first | rfl | (simp; done) | (congr 1; omega)) ?_)))
        first | exact ⟨by rw [dec_t ⟨by omega, by omega, by omega, by omega, fun i hi => hfl i (by omega), fun i hi => har i (by omega), fun i hi => hsl i (by omega)⟩], rfl⟩ | exact ⟨by rw [dec_f (fun h => by have h1 := h.n1; have h2 := h.n6; have h3 := h.al; have h4 := h.s9; omega)], rfl⟩ | exact ⟨by rw [dec_f (fun h => by have h1 := h.fl k (by omega); have h2 := h.ar k (by omega); omega)], rfl⟩ | exact ⟨by rw [dec_f (fun h => by obtain ⟨h1, h2, h3, h4, h5, h6, h7, h8⟩ := h.sl j (by omega); first | omega | exact h5 (by assumption))], rfl⟩
      ·
        first | have hb6n := kb_nt hb6 | have hb6n := kb_nf hb6 | have hb6n := hb6
        first | have hb6m := of_decide_eq_true hb6n | have hb6m := of_decide_eq_false hb6n | have hb6m := kb_eq hb6n | have hb6m := kb_ne hb6n | have hb6m := kb_bne hb6n | have hb6m := kb_nbne hb6n | have hb6m := isIx_t hb6n | have hb6m := isIx_f hb6n | have hb6m := inR_t hb6n | have hb6m := inR_f hb6n | have hb6m := dec_tt hb6n | have hb6m := dec_ff hb6n | have hb6m := hb6n
        try simp only [List.get_eq_getElem] at hb6n
        try simp only [List.get_eq_getElem] at hb6m
        refine kops_gd rfl rfl rfl hb6 rfl (opv_fab rfl rfl fa_47_2 (by repeat (first | exact List.Mem.head _ | apply List.Mem.tail))) ?_
        refine kops_gd rfl rfl rfl hb6 rfl (opv_load rfl rfl Try.isAgg45 (by repeat (first | exact List.Mem.head _ | apply List.Mem.tail)) (by first | rfl | exact gx_map (by omega) | exact fill_get (by omega) | (simp; done)) rfl) ?_
        refine kops_gd rfl rfl rfl hb6 rfl (opv_len rfl rfl rfl Try.runUnderlying45) ?_
        refine kops_gd rfl rfl rfl hb6 rfl (opv_cmp rfl rfl rfl rfl) ?_
        refine kops_d rfl rfl (opv_pick_f rfl rfl rfl hb6) ?_
        refine kops_nil ?_
        refine kn_then ?_
        refine kwp_cond rfl (fun hc8 => ?_) (fun hc8 => ?_)
        ·
          first | have hc8n := kb_nt hc8 | have hc8n := kb_nf hc8 | have hc8n := hc8
          first | have hc8m := of_decide_eq_true hc8n | have hc8m := of_decide_eq_false hc8n | have hc8m := kb_eq hc8n | have hc8m := kb_ne hc8n | have hc8m := kb_bne hc8n | have hc8m := kb_nbne hc8n | have hc8m := isIx_t hc8n | have hc8m := isIx_f hc8n | have hc8m := inR_t hc8n | have hc8m := inR_f hc8n | have hc8m := dec_tt hc8n | have hc8m := dec_ff hc8n | have hc8m := hc8n
          try simp only [List.get_eq_getElem] at hc8n
          try simp only [List.get_eq_getElem] at hc8m
          refine kwp_seq ?_
          refine kwp_region ?_
          refine kops_d rfl rfl (opv_assign rfl rfl) ?_
          refine kops_nil ?_
          refine kn_then ?_
          refine kwp_ret ?_
          refine kr_then ?_
          refine kret1 [] rfl rfl ?_ (by (repeat (first | exact Sub.refl _ | exact Sub.nil _ | refine Sub.chunk (by repeat (first | exact Pick.here | apply Pick.there)) (by first | rfl | (simp; done) | (congr 1; omega)) ?_)))
          first | exact ⟨by rw [dec_t ⟨by omega, by omega, by omega, by omega, fun i hi => hfl i (by omega), fun i hi => har i (by omega), fun i hi => hsl i (by omega)⟩], rfl⟩ | exact ⟨by rw [dec_f (fun h => by have h1 := h.n1; have h2 := h.n6; have h3 := h.al; have h4 := h.s9; omega)], rfl⟩ | exact ⟨by rw [dec_f (fun h => by have h1 := h.fl k (by omega); have h2 := h.ar k (by omega); omega)], rfl⟩ | exact ⟨by rw [dec_f (fun h => by obtain ⟨h1, h2, h3, h4, h5, h6, h7, h8⟩ := h.sl j (by omega); first | omega | exact h5 (by assumption))], rfl⟩
        ·
          first | have hc8n := kb_nt hc8 | have hc8n := kb_nf hc8 | have hc8n := hc8
          first | have hc8m := of_decide_eq_true hc8n | have hc8m := of_decide_eq_false hc8n | have hc8m := kb_eq hc8n | have hc8m := kb_ne hc8n | have hc8m := kb_bne hc8n | have hc8m := kb_nbne hc8n | have hc8m := isIx_t hc8n | have hc8m := isIx_f hc8n | have hc8m := inR_t hc8n | have hc8m := inR_f hc8n | have hc8m := dec_tt hc8n | have hc8m := dec_ff hc8n | have hc8m := hc8n
          try simp only [List.get_eq_getElem] at hc8n
          try simp only [List.get_eq_getElem] at hc8m
          refine kwp_skip ?_
          refine kn_then ?_
          refine kwp_seq ?_
          refine kwp_seq ?_
          refine kwp_region ?_
          refine kops_d rfl rfl (opv_fab rfl rfl fa_47_0 (by repeat (first | exact List.Mem.head _ | apply List.Mem.tail))) ?_
          refine kops_d rfl rfl (opv_load rfl rfl Try.isAgg39 (by repeat (first | exact List.Mem.head _ | apply List.Mem.tail)) (by first | rfl | exact gx_map (by omega) | exact fill_get (by omega) | (simp; done)) rfl) ?_
          refine kops_d rfl rfl (opv_len rfl rfl rfl Try.runUnderlying39) ?_
          refine kops_d rfl rfl (opv_move rfl rfl) ?_
          refine kops_nil ?_
          refine kn_then ?_
          refine kwp_block ?_
          refine kwp_loop1 (inv := [(1, _), (3, _), (31, _), (32, _)]) (ic := [⟨.pointer (some p1), _, _⟩])
            (fun (k : Nat) => [(33, .int .i64 k)])
            (fun (k : Nat) => [])
            (fun (k : Nat) => k ≤ F.length ∧ (∀ i, i < k → 0 ≤ gx F i ∧ gx F i ≤ 40) ∧ (∀ i, i < k → 1 ≤ gx A i ∧ gx A i ≤ 9))
            (fun (k : Nat) => F.length - k)
            ⟨0, ⟨by (exact ⟨by omega, fun i hi => by omega, fun i hi => by omega⟩), by (repeat (first | exact Knows.nil _ | refine Knows.cons2 rfl (by first | rfl | (simp; done) | (congr 1; omega)) ?_)), by (repeat (first | exact Sub.refl _ | exact Sub.nil _ | refine Sub.chunk (by repeat (first | exact Pick.here | apply Pick.there)) (by first | rfl | (simp; done) | (congr 1; omega)) ?_))⟩⟩ (fun k hp => ?_)
          obtain ⟨hk, hfl, har⟩ := hp
          refine kwp_seq ?_
          refine kwp_region ?_
          refine kops_d rfl rfl (opv_cmp rfl rfl rfl rfl) ?_
          refine kops_nil ?_
          refine kn_then ?_
          refine kwp_seq ?_
          refine kwp_cond rfl (fun hc10 => ?_) (fun hc10 => ?_)
          ·
            first | have hc10n := kb_nt hc10 | have hc10n := kb_nf hc10 | have hc10n := hc10
            first | have hc10m := of_decide_eq_true hc10n | have hc10m := of_decide_eq_false hc10n | have hc10m := kb_eq hc10n | have hc10m := kb_ne hc10n | have hc10m := kb_bne hc10n | have hc10m := kb_nbne hc10n | have hc10m := isIx_t hc10n | have hc10m := isIx_f hc10n | have hc10m := inR_t hc10n | have hc10m := inR_f hc10n | have hc10m := dec_tt hc10n | have hc10m := dec_ff hc10n | have hc10m := hc10n
            try simp only [List.get_eq_getElem] at hc10n
            try simp only [List.get_eq_getElem] at hc10m
            refine kwp_skip ?_
            refine kn_then ?_
            refine kwp_seq ?_
            refine kwp_block ?_
            refine kwp_seq ?_
            refine kwp_region ?_
            refine kops_d rfl rfl (opv_move rfl rfl) ?_
            refine kops_d rfl rfl (opv_ia rfl rfl rfl Try.runUnderlying39 Try.sizeOf3 (by repeat (first | exact List.Mem.head _ | apply List.Mem.tail)) (by first | rfl | exact (Int.toNat_of_nonneg (by omega)).symm) (by first | omega | (simp only [List.length_map]; omega) | (rw [fill_len (by omega)]; omega) | (simp; omega) | (simp; done))) ?_
            refine kops_d rfl rfl (opv_load rfl rfl Try.isAgg3 (by repeat (first | exact List.Mem.head _ | apply List.Mem.tail)) (by first | rfl | exact gx_map (by omega) | exact fill_get (by omega) | (simp; done)) rfl) ?_
            refine kops_d rfl rfl (opv_assign rfl rfl) ?_
            refine kops_d rfl rfl (opv_assign rfl rfl) ?_
            refine kops_nil ?_
            refine kn_then ?_
            refine kwp_seq ?_
            refine kwp_region ?_
            refine kops_d rfl rfl (opv_move rfl rfl) ?_
            refine kops_d rfl rfl (opv_cmp rfl rfl rfl rfl) ?_
            refine kops_d rfl rfl (opv_move rfl rfl) ?_
            refine kops_split 40 rfl (fun hb12 => ?_) (fun hb12 => ?_)
            ·
              first | have hb12n := kb_nt hb12 | have hb12n := kb_nf hb12 | have hb12n := hb12
              first | have hb12m := of_decide_eq_true hb12n | have hb12m := of_decide_eq_false hb12n | have hb12m := kb_eq hb12n | have hb12m := kb_ne hb12n | have hb12m := kb_bne hb12n | have hb12m := kb_nbne hb12n | have hb12m := isIx_t hb12n | have hb12m := isIx_f hb12n | have hb12m := inR_t hb12n | have hb12m := inR_f hb12n | have hb12m := dec_tt hb12n | have hb12m := dec_ff hb12n | have hb12m := hb12n
              try simp only [List.get_eq_getElem] at hb12n
              try simp only [List.get_eq_getElem] at hb12m
              refine kops_skip rfl rfl rfl hb12 ?_
              refine kops_skip rfl rfl rfl hb12 ?_
              refine kops_d rfl rfl (opv_pick_t rfl rfl rfl hb12) ?_
              refine kops_d rfl rfl (opv_move rfl rfl) ?_
              refine kops_skip rfl rfl rfl rfl ?_
              refine kops_skip rfl rfl rfl rfl ?_
              refine kops_skip rfl rfl rfl rfl ?_
              refine kops_skip rfl rfl rfl rfl ?_
              refine kops_skip rfl rfl rfl rfl ?_
              refine kops_skip rfl rfl rfl rfl ?_
              refine kops_d rfl rfl (opv_pick_t rfl rfl rfl rfl) ?_
              refine kops_d rfl rfl (opv_move rfl rfl) ?_
              refine kops_skip rfl rfl rfl rfl ?_
              refine kops_skip rfl rfl rfl rfl ?_
              refine kops_skip rfl rfl rfl rfl ?_
              refine kops_skip rfl rfl rfl rfl ?_
              refine kops_skip rfl rfl rfl rfl ?_
              refine kops_skip rfl rfl rfl rfl ?_
              refine kops_d rfl rfl (opv_pick_t rfl rfl rfl rfl) ?_
              refine kops_nil ?_
              refine kn_then ?_
              refine kwp_cond_t rfl rfl ?_
              refine kwp_seq ?_
              refine kwp_region ?_
              refine kops_d rfl rfl (opv_assign rfl rfl) ?_
              refine kops_nil ?_
              refine kn_then ?_
              refine kwp_ret ?_
              refine kr_block ?_
              refine kr_then ?_
              refine kr_then ?_
              refine kr_block ?_
              refine kr_then ?_
              refine kret1 [] rfl rfl ?_ (by (repeat (first | exact Sub.refl _ | exact Sub.nil _ | refine Sub.chunk (by repeat (first | exact Pick.here | apply Pick.there)) (by first | rfl | (simp; done) | (congr 1; omega)) ?_)))
              first | exact ⟨by rw [dec_t ⟨by omega, by omega, by omega, by omega, fun i hi => hfl i (by omega), fun i hi => har i (by omega), fun i hi => hsl i (by omega)⟩], rfl⟩ | exact ⟨by rw [dec_f (fun h => by have h1 := h.n1; have h2 := h.n6; have h3 := h.al; have h4 := h.s9; omega)], rfl⟩ | exact ⟨by rw [dec_f (fun h => by have h1 := h.fl k (by omega); have h2 := h.ar k (by omega); omega)], rfl⟩ | exact ⟨by rw [dec_f (fun h => by obtain ⟨h1, h2, h3, h4, h5, h6, h7, h8⟩ := h.sl j (by omega); first | omega | exact h5 (by assumption))], rfl⟩
            ·
              first | have hb12n := kb_nt hb12 | have hb12n := kb_nf hb12 | have hb12n := hb12
              first | have hb12m := of_decide_eq_true hb12n | have hb12m := of_decide_eq_false hb12n | have hb12m := kb_eq hb12n | have hb12m := kb_ne hb12n | have hb12m := kb_bne hb12n | have hb12m := kb_nbne hb12n | have hb12m := isIx_t hb12n | have hb12m := isIx_f hb12n | have hb12m := inR_t hb12n | have hb12m := inR_f hb12n | have hb12m := dec_tt hb12n | have hb12m := dec_ff hb12n | have hb12m := hb12n
              try simp only [List.get_eq_getElem] at hb12n
              try simp only [List.get_eq_getElem] at hb12m
              refine kops_gd rfl rfl rfl hb12 rfl (opv_move rfl rfl) ?_
              refine kops_gd rfl rfl rfl hb12 rfl (opv_cmp rfl rfl rfl rfl) ?_
              refine kops_d rfl rfl (opv_pick_f rfl rfl rfl hb12) ?_
              refine kops_d rfl rfl (opv_move rfl rfl) ?_
              refine kops_split 44 rfl (fun hb14 => ?_) (fun hb14 => ?_)
              ·
                first | have hb14n := kb_nt hb14 | have hb14n := kb_nf hb14 | have hb14n := hb14
                first | have hb14m := of_decide_eq_true hb14n | have hb14m := of_decide_eq_false hb14n | have hb14m := kb_eq hb14n | have hb14m := kb_ne hb14n | have hb14m := kb_bne hb14n | have hb14m := kb_nbne hb14n | have hb14m := isIx_t hb14n | have hb14m := isIx_f hb14n | have hb14m := inR_t hb14n | have hb14m := inR_f hb14n | have hb14m := dec_tt hb14n | have hb14m := dec_ff hb14n | have hb14m := hb14n
                try simp only [List.get_eq_getElem] at hb14n
                try simp only [List.get_eq_getElem] at hb14m
                refine kops_skip rfl rfl rfl hb14 ?_
                refine kops_skip rfl rfl rfl hb14 ?_
                refine kops_skip rfl rfl rfl hb14 ?_
                refine kops_skip rfl rfl rfl hb14 ?_
                refine kops_skip rfl rfl rfl hb14 ?_
                refine kops_skip rfl rfl rfl hb14 ?_
                refine kops_d rfl rfl (opv_pick_t rfl rfl rfl hb14) ?_
                refine kops_d rfl rfl (opv_move rfl rfl) ?_
                refine kops_skip rfl rfl rfl rfl ?_
                refine kops_skip rfl rfl rfl rfl ?_
                refine kops_skip rfl rfl rfl rfl ?_
                refine kops_skip rfl rfl rfl rfl ?_
                refine kops_skip rfl rfl rfl rfl ?_
                refine kops_skip rfl rfl rfl rfl ?_
                refine kops_d rfl rfl (opv_pick_t rfl rfl rfl rfl) ?_
                refine kops_nil ?_
                refine kn_then ?_
                refine kwp_cond_t rfl rfl ?_
                refine kwp_seq ?_
                refine kwp_region ?_
                refine kops_d rfl rfl (opv_assign rfl rfl) ?_
                refine kops_nil ?_
                refine kn_then ?_
                refine kwp_ret ?_
                refine kr_block ?_
                refine kr_then ?_
                refine kr_then ?_
                refine kr_block ?_
                refine kr_then ?_
                refine kret1 [] rfl rfl ?_ (by (repeat (first | exact Sub.refl _ | exact Sub.nil _ | refine Sub.chunk (by repeat (first | exact Pick.here | apply Pick.there)) (by first | rfl | (simp; done) | (congr 1; omega)) ?_)))
                first | exact ⟨by rw [dec_t ⟨by omega, by omega, by omega, by omega, fun i hi => hfl i (by omega), fun i hi => har i (by omega), fun i hi => hsl i (by omega)⟩], rfl⟩ | exact ⟨by rw [dec_f (fun h => by have h1 := h.n1; have h2 := h.n6; have h3 := h.al; have h4 := h.s9; omega)], rfl⟩ | exact ⟨by rw [dec_f (fun h => by have h1 := h.fl k (by omega); have h2 := h.ar k (by omega); omega)], rfl⟩ | exact ⟨by rw [dec_f (fun h => by obtain ⟨h1, h2, h3, h4, h5, h6, h7, h8⟩ := h.sl j (by omega); first | omega | exact h5 (by assumption))], rfl⟩
              ·
                first | have hb14n := kb_nt hb14 | have hb14n := kb_nf hb14 | have hb14n := hb14
                first | have hb14m := of_decide_eq_true hb14n | have hb14m := of_decide_eq_false hb14n | have hb14m := kb_eq hb14n | have hb14m := kb_ne hb14n | have hb14m := kb_bne hb14n | have hb14m := kb_nbne hb14n | have hb14m := isIx_t hb14n | have hb14m := isIx_f hb14n | have hb14m := inR_t hb14n | have hb14m := inR_f hb14n | have hb14m := dec_tt hb14n | have hb14m := dec_ff hb14n | have hb14m := hb14n
                try simp only [List.get_eq_getElem] at hb14n
                try simp only [List.get_eq_getElem] at hb14m
                refine kops_gd rfl rfl rfl hb14 rfl (opv_fab rfl rfl fa_47_1 (by repeat (first | exact List.Mem.head _ | apply List.Mem.tail))) ?_
                refine kops_gd rfl rfl rfl hb14 rfl (opv_load rfl rfl Try.isAgg39 (by repeat (first | exact List.Mem.head _ | apply List.Mem.tail)) (by first | rfl | exact gx_map (by omega) | exact fill_get (by omega) | (simp; done)) rfl) ?_
                refine kops_gd rfl rfl rfl hb14 rfl (opv_move rfl rfl) ?_
                refine kops_gd rfl rfl rfl hb14 rfl (opv_ia rfl rfl rfl Try.runUnderlying39 Try.sizeOf3 (by repeat (first | exact List.Mem.head _ | apply List.Mem.tail)) (by first | rfl | exact (Int.toNat_of_nonneg (by omega)).symm) (by first | omega | (simp only [List.length_map]; omega) | (rw [fill_len (by omega)]; omega) | (simp; omega) | (simp; done))) ?_
                refine kops_gd rfl rfl rfl hb14 rfl (opv_load rfl rfl Try.isAgg3 (by repeat (first | exact List.Mem.head _ | apply List.Mem.tail)) (by first | rfl | exact gx_map (by omega) | exact fill_get (by omega) | (simp; done)) rfl) ?_
                refine kops_gd rfl rfl rfl hb14 rfl (opv_cmp rfl rfl rfl rfl) ?_
                refine kops_d rfl rfl (opv_pick_f rfl rfl rfl hb14) ?_
                refine kops_d rfl rfl (opv_move rfl rfl) ?_
                refine kops_split 52 rfl (fun hb16 => ?_) (fun hb16 => ?_)
                ·
                  first | have hb16n := kb_nt hb16 | have hb16n := kb_nf hb16 | have hb16n := hb16
                  first | have hb16m := of_decide_eq_true hb16n | have hb16m := of_decide_eq_false hb16n | have hb16m := kb_eq hb16n | have hb16m := kb_ne hb16n | have hb16m := kb_bne hb16n | have hb16m := kb_nbne hb16n | have hb16m := isIx_t hb16n | have hb16m := isIx_f hb16n | have hb16m := inR_t hb16n | have hb16m := inR_f hb16n | have hb16m := dec_tt hb16n | have hb16m := dec_ff hb16n | have hb16m := hb16n
                  try simp only [List.get_eq_getElem] at hb16n
                  try simp only [List.get_eq_getElem] at hb16m
                  refine kops_skip rfl rfl rfl hb16 ?_
                  refine kops_skip rfl rfl rfl hb16 ?_
                  refine kops_skip rfl rfl rfl hb16 ?_
                  refine kops_skip rfl rfl rfl hb16 ?_
                  refine kops_skip rfl rfl rfl hb16 ?_
                  refine kops_skip rfl rfl rfl hb16 ?_
                  refine kops_d rfl rfl (opv_pick_t rfl rfl rfl hb16) ?_
                  refine kops_nil ?_
                  refine kn_then ?_
                  refine kwp_cond_t rfl rfl ?_
                  refine kwp_seq ?_
                  refine kwp_region ?_
                  refine kops_d rfl rfl (opv_assign rfl rfl) ?_
                  refine kops_nil ?_
                  refine kn_then ?_
                  refine kwp_ret ?_
                  refine kr_block ?_
                  refine kr_then ?_
                  refine kr_then ?_
                  refine kr_block ?_
                  refine kr_then ?_
                  refine kret1 [] rfl rfl ?_ (by (repeat (first | exact Sub.refl _ | exact Sub.nil _ | refine Sub.chunk (by repeat (first | exact Pick.here | apply Pick.there)) (by first | rfl | (simp; done) | (congr 1; omega)) ?_)))
                  first | exact ⟨by rw [dec_t ⟨by omega, by omega, by omega, by omega, fun i hi => hfl i (by omega), fun i hi => har i (by omega), fun i hi => hsl i (by omega)⟩], rfl⟩ | exact ⟨by rw [dec_f (fun h => by have h1 := h.n1; have h2 := h.n6; have h3 := h.al; have h4 := h.s9; omega)], rfl⟩ | exact ⟨by rw [dec_f (fun h => by have h1 := h.fl k (by omega); have h2 := h.ar k (by omega); omega)], rfl⟩ | exact ⟨by rw [dec_f (fun h => by obtain ⟨h1, h2, h3, h4, h5, h6, h7, h8⟩ := h.sl j (by omega); first | omega | exact h5 (by assumption))], rfl⟩
                ·
                  first | have hb16n := kb_nt hb16 | have hb16n := kb_nf hb16 | have hb16n := hb16
                  first | have hb16m := of_decide_eq_true hb16n | have hb16m := of_decide_eq_false hb16n | have hb16m := kb_eq hb16n | have hb16m := kb_ne hb16n | have hb16m := kb_bne hb16n | have hb16m := kb_nbne hb16n | have hb16m := isIx_t hb16n | have hb16m := isIx_f hb16n | have hb16m := inR_t hb16n | have hb16m := inR_f hb16n | have hb16m := dec_tt hb16n | have hb16m := dec_ff hb16n | have hb16m := hb16n
                  try simp only [List.get_eq_getElem] at hb16n
                  try simp only [List.get_eq_getElem] at hb16m
                  refine kops_gd rfl rfl rfl hb16 rfl (opv_fab rfl rfl fa_47_1 (by repeat (first | exact List.Mem.head _ | apply List.Mem.tail))) ?_
                  refine kops_gd rfl rfl rfl hb16 rfl (opv_load rfl rfl Try.isAgg39 (by repeat (first | exact List.Mem.head _ | apply List.Mem.tail)) (by first | rfl | exact gx_map (by omega) | exact fill_get (by omega) | (simp; done)) rfl) ?_
                  refine kops_gd rfl rfl rfl hb16 rfl (opv_move rfl rfl) ?_
                  refine kops_gd rfl rfl rfl hb16 rfl (opv_ia rfl rfl rfl Try.runUnderlying39 Try.sizeOf3 (by repeat (first | exact List.Mem.head _ | apply List.Mem.tail)) (by first | rfl | exact (Int.toNat_of_nonneg (by omega)).symm) (by first | omega | (simp only [List.length_map]; omega) | (rw [fill_len (by omega)]; omega) | (simp; omega) | (simp; done))) ?_
                  refine kops_gd rfl rfl rfl hb16 rfl (opv_load rfl rfl Try.isAgg3 (by repeat (first | exact List.Mem.head _ | apply List.Mem.tail)) (by first | rfl | exact gx_map (by omega) | exact fill_get (by omega) | (simp; done)) rfl) ?_
                  refine kops_gd rfl rfl rfl hb16 rfl (opv_cmp rfl rfl rfl rfl) ?_
                  refine kops_d rfl rfl (opv_pick_f rfl rfl rfl hb16) ?_
                  refine kops_nil ?_
                  refine kn_then ?_
                  refine kwp_cond rfl (fun hc18 => ?_) (fun hc18 => ?_)
                  ·
                    first | have hc18n := kb_nt hc18 | have hc18n := kb_nf hc18 | have hc18n := hc18
                    first | have hc18m := of_decide_eq_true hc18n | have hc18m := of_decide_eq_false hc18n | have hc18m := kb_eq hc18n | have hc18m := kb_ne hc18n | have hc18m := kb_bne hc18n | have hc18m := kb_nbne hc18n | have hc18m := isIx_t hc18n | have hc18m := isIx_f hc18n | have hc18m := inR_t hc18n | have hc18m := inR_f hc18n | have hc18m := dec_tt hc18n | have hc18m := dec_ff hc18n | have hc18m := hc18n
                    try simp only [List.get_eq_getElem] at hc18n
                    try simp only [List.get_eq_getElem] at hc18m
                    refine kwp_seq ?_
                    refine kwp_region ?_
                    refine kops_d rfl rfl (opv_assign rfl rfl) ?_
                    refine kops_nil ?_
                    refine kn_then ?_
                    refine kwp_ret ?_
                    refine kr_block ?_
                    refine kr_then ?_
                    refine kr_then ?_
                    refine kr_block ?_
                    refine kr_then ?_
                    refine kret1 [] rfl rfl ?_ (by (repeat (first | exact Sub.refl _ | exact Sub.nil _ | refine Sub.chunk (by repeat (first | exact Pick.here | apply Pick.there)) (by first | rfl | (simp; done) | (congr 1; omega)) ?_)))
                    first | exact ⟨by rw [dec_t ⟨by omega, by omega, by omega, by omega, fun i hi => hfl i (by omega), fun i hi => har i (by omega), fun i hi => hsl i (by omega)⟩], rfl⟩ | exact ⟨by rw [dec_f (fun h => by have h1 := h.n1; have h2 := h.n6; have h3 := h.al; have h4 := h.s9; omega)], rfl⟩ | exact ⟨by rw [dec_f (fun h => by have h1 := h.fl k (by omega); have h2 := h.ar k (by omega); omega)], rfl⟩ | exact ⟨by rw [dec_f (fun h => by obtain ⟨h1, h2, h3, h4, h5, h6, h7, h8⟩ := h.sl j (by omega); first | omega | exact h5 (by assumption))], rfl⟩
                  ·
                    first | have hc18n := kb_nt hc18 | have hc18n := kb_nf hc18 | have hc18n := hc18
                    first | have hc18m := of_decide_eq_true hc18n | have hc18m := of_decide_eq_false hc18n | have hc18m := kb_eq hc18n | have hc18m := kb_ne hc18n | have hc18m := kb_bne hc18n | have hc18m := kb_nbne hc18n | have hc18m := isIx_t hc18n | have hc18m := isIx_f hc18n | have hc18m := inR_t hc18n | have hc18m := inR_f hc18n | have hc18m := dec_tt hc18n | have hc18m := dec_ff hc18n | have hc18m := hc18n
                    try simp only [List.get_eq_getElem] at hc18n
                    try simp only [List.get_eq_getElem] at hc18m
                    refine kwp_skip ?_
                    refine kn_block ?_
                    refine kn_then ?_
                    refine kwp_region ?_
                    refine kops_d rfl rfl (by first | exact opv_add rfl rfl rfl ⟨by omega, by omega⟩ | exact opv_ari rfl rfl rfl rfl) ?_
                    refine kops_d rfl rfl (opv_move rfl rfl) ?_
                    refine kops_nil ?_
                    refine kn_then ?_
                    exact ⟨k + 1, ⟨by (exact ⟨by omega, upto hfl (by omega), upto har (by omega)⟩), by (repeat (first | exact Knows.nil _ | refine Knows.cons2 rfl (by first | rfl | (simp; done) | (congr 1; omega)) ?_)), by (repeat (first | exact Sub.refl _ | exact Sub.nil _ | refine Sub.chunk (by repeat (first | exact Pick.here | apply Pick.there)) (by first | rfl | (simp; done) | (congr 1; omega)) ?_))⟩, by omega⟩
          ·
            first | have hc10n := kb_nt hc10 | have hc10n := kb_nf hc10 | have hc10n := hc10
            first | have hc10m := of_decide_eq_true hc10n | have hc10m := of_decide_eq_false hc10n | have hc10m := kb_eq hc10n | have hc10m := kb_ne hc10n | have hc10m := kb_bne hc10n | have hc10m := kb_nbne hc10n | have hc10m := isIx_t hc10n | have hc10m := isIx_f hc10n | have hc10m := inR_t hc10n | have hc10m := inR_f hc10n | have hc10m := dec_tt hc10n | have hc10m := dec_ff hc10n | have hc10m := hc10n
            try simp only [List.get_eq_getElem] at hc10n
            try simp only [List.get_eq_getElem] at hc10m
            refine kwp_exit ?_
            refine ke_then ?_
            refine ke_then ?_
            refine ke_block ?_
            refine kn_then ?_
            refine kwp_seq ?_
            refine kwp_seq ?_
            refine kwp_region ?_
            refine kops_d rfl rfl (opv_fab rfl rfl fa_47_2 (by repeat (first | exact List.Mem.head _ | apply List.Mem.tail))) ?_
            refine kops_d rfl rfl (opv_load rfl rfl Try.isAgg45 (by repeat (first | exact List.Mem.head _ | apply List.Mem.tail)) (by first | rfl | exact gx_map (by omega) | exact fill_get (by omega) | (simp; done)) rfl) ?_
            refine kops_d rfl rfl (opv_len rfl rfl rfl Try.runUnderlying45) ?_
            refine kops_d rfl rfl (opv_move rfl rfl) ?_
            refine kops_nil ?_
            refine kn_then ?_
            refine kwp_block ?_
            refine kwp_loop1 (inv := [(1, _), (3, _), (62, _), (63, _)]) (ic := [⟨.pointer (some p1), _, _⟩])
              (fun (j : Nat) => [(64, .int .i64 j)])
              (fun (j : Nat) => [])
              (fun (j : Nat) => j ≤ S.length ∧ (∀ i, i < j → SillOk F (gx S i)))
              (fun (j : Nat) => S.length - j)
              ⟨0, ⟨by (exact ⟨by omega, fun i hi => by omega⟩), by (repeat (first | exact Knows.nil _ | refine Knows.cons2 rfl (by first | rfl | (simp; done) | (congr 1; omega)) ?_)), by (repeat (first | exact Sub.refl _ | exact Sub.nil _ | refine Sub.chunk (by repeat (first | exact Pick.here | apply Pick.there)) (by first | rfl | (simp; done) | (congr 1; omega)) ?_))⟩⟩ (fun j hp => ?_)
            obtain ⟨hj, hsl⟩ := hp
            refine kwp_seq ?_
            refine kwp_region ?_
            refine kops_d rfl rfl (opv_cmp rfl rfl rfl rfl) ?_
            refine kops_nil ?_
            refine kn_then ?_
            refine kwp_seq ?_
            refine kwp_cond rfl (fun hc20 => ?_) (fun hc20 => ?_)
            ·
              first | have hc20n := kb_nt hc20 | have hc20n := kb_nf hc20 | have hc20n := hc20
              first | have hc20m := of_decide_eq_true hc20n | have hc20m := of_decide_eq_false hc20n | have hc20m := kb_eq hc20n | have hc20m := kb_ne hc20n | have hc20m := kb_bne hc20n | have hc20m := kb_nbne hc20n | have hc20m := isIx_t hc20n | have hc20m := isIx_f hc20n | have hc20m := inR_t hc20n | have hc20m := inR_f hc20n | have hc20m := dec_tt hc20n | have hc20m := dec_ff hc20n | have hc20m := hc20n
              try simp only [List.get_eq_getElem] at hc20n
              try simp only [List.get_eq_getElem] at hc20m
              refine kwp_skip ?_
              refine kn_then ?_
              refine kwp_seq ?_
              refine kwp_block ?_
              refine kwp_seq ?_
              refine kwp_region ?_
              refine kops_d rfl rfl (opv_ia rfl rfl rfl Try.runUnderlying45 Try.sizeOf83 (by repeat (first | exact List.Mem.head _ | apply List.Mem.tail)) (by first | rfl | exact (Int.toNat_of_nonneg (by omega)).symm) (by first | omega | (simp only [List.length_map]; omega) | (rw [fill_len (by omega)]; omega) | (simp; omega) | (simp; done))) ?_
              refine kops_d rfl rfl (opv_load_agg rfl rfl Try.isAgg83 Try.sizeOf83 (by repeat (first | exact List.Mem.head _ | apply List.Mem.tail)) (by first | rfl | exact gx_map (by omega) | exact fill_get (by omega) | (simp; done))) ?_
              refine kops_step rfl (opk_alloc' (e := [_, _, _]) 3 rfl Try.zeroValue83 rfl rfl (by decide) (fun p7 => ?_))
              refine kops_step rfl (opk_store_box (e' := [_, _, _]) rfl rfl rfl Try.sizeOf83 rfl (by first | exact one_aw | exact one_int | exact one_sill | decide | (simp [Value.oneCell']; done) | (intro x hx; simp at hx; rcases hx with rfl | rfl | rfl | rfl | rfl <;> rfl)) rfl (by repeat (first | exact Upd.here | apply Upd.there)) ?_)
              refine kops_nil ?_
              refine kn_then ?_
              refine kwp_seq ?_
              refine kwp_seq ?_
              refine kwp_region ?_
              refine kops_d rfl rfl (opv_fab rfl rfl fa_83_0 (by repeat (first | exact List.Mem.head _ | apply List.Mem.tail))) ?_
              refine kops_d rfl rfl (opv_load rfl rfl Try.isAgg3 (by repeat (first | exact List.Mem.head _ | apply List.Mem.tail)) (by first | rfl | exact gx_map (by omega) | exact fill_get (by omega) | (simp; done)) rfl) ?_
              refine kops_d rfl rfl (opv_move rfl rfl) ?_
              refine kops_step rfl (opk_call rfl Try.call60 rfl (c_impl_isIndex _ _) ((perm_nil _)) ((Views.nil _)) ?_)
              rintro _ _ ⟨rfl, rfl⟩
              refine kops_d rfl rfl (opv_not rfl rfl) ?_
              refine kops_d rfl rfl (opv_move rfl rfl) ?_
              refine kops_split 73 rfl (fun hb23 => ?_) (fun hb23 => ?_)
              ·
                first | have hb23n := kb_nt hb23 | have hb23n := kb_nf hb23 | have hb23n := hb23
                first | have hb23m := of_decide_eq_true hb23n | have hb23m := of_decide_eq_false hb23n | have hb23m := kb_eq hb23n | have hb23m := kb_ne hb23n | have hb23m := kb_bne hb23n | have hb23m := kb_nbne hb23n | have hb23m := isIx_t hb23n | have hb23m := isIx_f hb23n | have hb23m := inR_t hb23n | have hb23m := inR_f hb23n | have hb23m := dec_tt hb23n | have hb23m := dec_ff hb23n | have hb23m := hb23n
                try simp only [List.get_eq_getElem] at hb23n
                try simp only [List.get_eq_getElem] at hb23m
                refine kops_skip rfl rfl rfl hb23 ?_
                refine kops_skip rfl rfl rfl hb23 ?_
                refine kops_skip rfl rfl rfl hb23 ?_
                refine kops_skip rfl rfl rfl hb23 ?_
                refine kops_skip rfl rfl rfl hb23 ?_
                refine kops_d rfl rfl (opv_pick_t rfl rfl rfl hb23) ?_
                refine kops_d rfl rfl (opv_move rfl rfl) ?_
                refine kops_skip rfl rfl rfl rfl ?_
                refine kops_skip rfl rfl rfl rfl ?_
                refine kops_skip rfl rfl rfl rfl ?_
                refine kops_skip rfl rfl rfl rfl ?_
                refine kops_skip rfl rfl rfl rfl ?_
                refine kops_d rfl rfl (opv_pick_t rfl rfl rfl rfl) ?_
                refine kops_nil ?_
                refine kn_then ?_
                refine kwp_cond_t rfl rfl ?_
                refine kwp_seq ?_
                refine kwp_region ?_
                refine kops_d rfl rfl (opv_assign rfl rfl) ?_
                refine kops_nil ?_
                refine kn_then ?_
                refine kwp_ret ?_
                refine kr_then ?_
                refine kr_block ?_
                refine kr_then ?_
                refine kr_then ?_
                refine kr_block ?_
                refine kr_then ?_
                refine kret1 [] rfl rfl ?_ (by (repeat (first | exact Sub.refl _ | exact Sub.nil _ | refine Sub.chunk (by repeat (first | exact Pick.here | apply Pick.there)) (by first | rfl | (simp; done) | (congr 1; omega)) ?_)))
                first | exact ⟨by rw [dec_t ⟨by omega, by omega, by omega, by omega, fun i hi => hfl i (by omega), fun i hi => har i (by omega), fun i hi => hsl i (by omega)⟩], rfl⟩ | exact ⟨by rw [dec_f (fun h => by have h1 := h.n1; have h2 := h.n6; have h3 := h.al; have h4 := h.s9; omega)], rfl⟩ | exact ⟨by rw [dec_f (fun h => by have h1 := h.fl k (by omega); have h2 := h.ar k (by omega); omega)], rfl⟩ | exact ⟨by rw [dec_f (fun h => by obtain ⟨h1, h2, h3, h4, h5, h6, h7, h8⟩ := h.sl j (by omega); first | omega | exact h5 (by assumption))], rfl⟩
              ·
                first | have hb23n := kb_nt hb23 | have hb23n := kb_nf hb23 | have hb23n := hb23
                first | have hb23m := of_decide_eq_true hb23n | have hb23m := of_decide_eq_false hb23n | have hb23m := kb_eq hb23n | have hb23m := kb_ne hb23n | have hb23m := kb_bne hb23n | have hb23m := kb_nbne hb23n | have hb23m := isIx_t hb23n | have hb23m := isIx_f hb23n | have hb23m := inR_t hb23n | have hb23m := inR_f hb23n | have hb23m := dec_tt hb23n | have hb23m := dec_ff hb23n | have hb23m := hb23n
                try simp only [List.get_eq_getElem] at hb23n
                try simp only [List.get_eq_getElem] at hb23m
                refine kops_gd rfl rfl rfl hb23 rfl (opv_fab rfl rfl fa_83_1 (by repeat (first | exact List.Mem.head _ | apply List.Mem.tail))) ?_
                refine kops_gd rfl rfl rfl hb23 rfl (opv_load rfl rfl Try.isAgg3 (by repeat (first | exact List.Mem.head _ | apply List.Mem.tail)) (by first | rfl | exact gx_map (by omega) | exact fill_get (by omega) | (simp; done)) rfl) ?_
                refine kops_gd rfl rfl rfl hb23 rfl (opv_move rfl rfl) ?_
                refine kops_gk rfl rfl rfl hb23 (opk_call rfl Try.call60 rfl (c_impl_isIndex _ _) ((perm_nil _)) ((Views.nil _)) ?_)
                rintro _ _ ⟨rfl, rfl⟩
                refine kops_gd rfl rfl rfl hb23 rfl (opv_not rfl rfl) ?_
                refine kops_d rfl rfl (opv_pick_f rfl rfl rfl hb23) ?_
                refine kops_d rfl rfl (opv_move rfl rfl) ?_
                refine kops_split 80 rfl (fun hb26 => ?_) (fun hb26 => ?_)
                ·
                  first | have hb26n := kb_nt hb26 | have hb26n := kb_nf hb26 | have hb26n := hb26
                  first | have hb26m := of_decide_eq_true hb26n | have hb26m := of_decide_eq_false hb26n | have hb26m := kb_eq hb26n | have hb26m := kb_ne hb26n | have hb26m := kb_bne hb26n | have hb26m := kb_nbne hb26n | have hb26m := isIx_t hb26n | have hb26m := isIx_f hb26n | have hb26m := inR_t hb26n | have hb26m := inR_f hb26n | have hb26m := dec_tt hb26n | have hb26m := dec_ff hb26n | have hb26m := hb26n
                  try simp only [List.get_eq_getElem] at hb26n
                  try simp only [List.get_eq_getElem] at hb26m
                  refine kops_skip rfl rfl rfl hb26 ?_
                  refine kops_skip rfl rfl rfl hb26 ?_
                  refine kops_skip rfl rfl rfl hb26 ?_
                  refine kops_skip rfl rfl rfl hb26 ?_
                  refine kops_skip rfl rfl rfl hb26 ?_
                  refine kops_d rfl rfl (opv_pick_t rfl rfl rfl hb26) ?_
                  refine kops_nil ?_
                  refine kn_then ?_
                  refine kwp_cond_t rfl rfl ?_
                  refine kwp_seq ?_
                  refine kwp_region ?_
                  refine kops_d rfl rfl (opv_assign rfl rfl) ?_
                  refine kops_nil ?_
                  refine kn_then ?_
                  refine kwp_ret ?_
                  refine kr_then ?_
                  refine kr_block ?_
                  refine kr_then ?_
                  refine kr_then ?_
                  refine kr_block ?_
                  refine kr_then ?_
                  refine kret1 [] rfl rfl ?_ (by (repeat (first | exact Sub.refl _ | exact Sub.nil _ | refine Sub.chunk (by repeat (first | exact Pick.here | apply Pick.there)) (by first | rfl | (simp; done) | (congr 1; omega)) ?_)))
                  first | exact ⟨by rw [dec_t ⟨by omega, by omega, by omega, by omega, fun i hi => hfl i (by omega), fun i hi => har i (by omega), fun i hi => hsl i (by omega)⟩], rfl⟩ | exact ⟨by rw [dec_f (fun h => by have h1 := h.n1; have h2 := h.n6; have h3 := h.al; have h4 := h.s9; omega)], rfl⟩ | exact ⟨by rw [dec_f (fun h => by have h1 := h.fl k (by omega); have h2 := h.ar k (by omega); omega)], rfl⟩ | exact ⟨by rw [dec_f (fun h => by obtain ⟨h1, h2, h3, h4, h5, h6, h7, h8⟩ := h.sl j (by omega); first | omega | exact h5 (by assumption))], rfl⟩
                ·
                  first | have hb26n := kb_nt hb26 | have hb26n := kb_nf hb26 | have hb26n := hb26
                  first | have hb26m := of_decide_eq_true hb26n | have hb26m := of_decide_eq_false hb26n | have hb26m := kb_eq hb26n | have hb26m := kb_ne hb26n | have hb26m := kb_bne hb26n | have hb26m := kb_nbne hb26n | have hb26m := isIx_t hb26n | have hb26m := isIx_f hb26n | have hb26m := inR_t hb26n | have hb26m := inR_f hb26n | have hb26m := dec_tt hb26n | have hb26m := dec_ff hb26n | have hb26m := hb26n
                  try simp only [List.get_eq_getElem] at hb26n
                  try simp only [List.get_eq_getElem] at hb26m
                  refine kops_gd rfl rfl rfl hb26 rfl (opv_fab rfl rfl fa_83_0 (by repeat (first | exact List.Mem.head _ | apply List.Mem.tail))) ?_
                  refine kops_gd rfl rfl rfl hb26 rfl (opv_load rfl rfl Try.isAgg3 (by repeat (first | exact List.Mem.head _ | apply List.Mem.tail)) (by first | rfl | exact gx_map (by omega) | exact fill_get (by omega) | (simp; done)) rfl) ?_
                  refine kops_gd rfl rfl rfl hb26 rfl (opv_fab rfl rfl fa_83_1 (by repeat (first | exact List.Mem.head _ | apply List.Mem.tail))) ?_
                  refine kops_gd rfl rfl rfl hb26 rfl (opv_load rfl rfl Try.isAgg3 (by repeat (first | exact List.Mem.head _ | apply List.Mem.tail)) (by first | rfl | exact gx_map (by omega) | exact fill_get (by omega) | (simp; done)) rfl) ?_
                  refine kops_gd rfl rfl rfl hb26 rfl (opv_cmp rfl rfl rfl rfl) ?_
                  refine kops_d rfl rfl (opv_pick_f rfl rfl rfl hb26) ?_
                  refine kops_nil ?_
                  refine kn_then ?_
                  refine kwp_cond rfl (fun hc28 => ?_) (fun hc28 => ?_)
                  ·
                    first | have hc28n := kb_nt hc28 | have hc28n := kb_nf hc28 | have hc28n := hc28
                    first | have hc28m := of_decide_eq_true hc28n | have hc28m := of_decide_eq_false hc28n | have hc28m := kb_eq hc28n | have hc28m := kb_ne hc28n | have hc28m := kb_bne hc28n | have hc28m := kb_nbne hc28n | have hc28m := isIx_t hc28n | have hc28m := isIx_f hc28n | have hc28m := inR_t hc28n | have hc28m := inR_f hc28n | have hc28m := dec_tt hc28n | have hc28m := dec_ff hc28n | have hc28m := hc28n
                    try simp only [List.get_eq_getElem] at hc28n
                    try simp only [List.get_eq_getElem] at hc28m
                    refine kwp_seq ?_
                    refine kwp_region ?_
                    refine kops_d rfl rfl (opv_assign rfl rfl) ?_
                    refine kops_nil ?_
                    refine kn_then ?_
                    refine kwp_ret ?_
                    refine kr_then ?_
                    refine kr_block ?_
                    refine kr_then ?_
                    refine kr_then ?_
                    refine kr_block ?_
                    refine kr_then ?_
                    refine kret1 [] rfl rfl ?_ (by (repeat (first | exact Sub.refl _ | exact Sub.nil _ | refine Sub.chunk (by repeat (first | exact Pick.here | apply Pick.there)) (by first | rfl | (simp; done) | (congr 1; omega)) ?_)))
                    first | exact ⟨by rw [dec_t ⟨by omega, by omega, by omega, by omega, fun i hi => hfl i (by omega), fun i hi => har i (by omega), fun i hi => hsl i (by omega)⟩], rfl⟩ | exact ⟨by rw [dec_f (fun h => by have h1 := h.n1; have h2 := h.n6; have h3 := h.al; have h4 := h.s9; omega)], rfl⟩ | exact ⟨by rw [dec_f (fun h => by have h1 := h.fl k (by omega); have h2 := h.ar k (by omega); omega)], rfl⟩ | exact ⟨by rw [dec_f (fun h => by obtain ⟨h1, h2, h3, h4, h5, h6, h7, h8⟩ := h.sl j (by omega); first | omega | exact h5 (by assumption))], rfl⟩
                  ·
                    first | have hc28n := kb_nt hc28 | have hc28n := kb_nf hc28 | have hc28n := hc28
                    first | have hc28m := of_decide_eq_true hc28n | have hc28m := of_decide_eq_false hc28n | have hc28m := kb_eq hc28n | have hc28m := kb_ne hc28n | have hc28m := kb_bne hc28n | have hc28m := kb_nbne hc28n | have hc28m := isIx_t hc28n | have hc28m := isIx_f hc28n | have hc28m := inR_t hc28n | have hc28m := inR_f hc28n | have hc28m := dec_tt hc28n | have hc28m := dec_ff hc28n | have hc28m := hc28n
                    try simp only [List.get_eq_getElem] at hc28n
                    try simp only [List.get_eq_getElem] at hc28m
                    refine kwp_skip ?_
                    refine kn_then ?_
                    refine kwp_seq ?_
                    refine kwp_draw [(0, true), (1, true), (2, true), (3, true), (4, true), (5, true), (6, true), (7, true), (8, true), (9, true), (10, true), (11, true), (12, true), (13, true), (14, true), (15, true), (16, true), (17, true), (18, true), (19, true), (20, true), (21, true), (22, true), (23, true), (24, true)] [] _ drawMixed (by kernel_rfl) (fun _ _ _ h => h) (Sub.refl _) ?_
                    refine ks_d rfl rfl rfl (opv_fab rfl rfl fa_83_2 (by repeat (first | exact List.Mem.head _ | apply List.Mem.tail))) ?_
                    refine ks_d rfl rfl rfl (opv_load rfl rfl Try.isAgg3 (by repeat (first | exact List.Mem.head _ | apply List.Mem.tail)) (by first | rfl | exact gx_map (by omega) | exact fill_get (by omega) | (simp; done)) rfl) ?_
                    refine ks_d rfl rfl rfl (opv_fab rfl rfl fa_47_0 (by repeat (first | exact List.Mem.head _ | apply List.Mem.tail))) ?_
                    refine ks_d rfl rfl rfl (opv_load rfl rfl Try.isAgg39 (by repeat (first | exact List.Mem.head _ | apply List.Mem.tail)) (by first | rfl | exact gx_map (by omega) | exact fill_get (by omega) | (simp; done)) rfl) ?_
                    refine ks_d rfl rfl rfl (opv_fab rfl rfl fa_83_0 (by repeat (first | exact List.Mem.head _ | apply List.Mem.tail))) ?_
                    refine ks_d rfl rfl rfl (opv_load rfl rfl Try.isAgg3 (by repeat (first | exact List.Mem.head _ | apply List.Mem.tail)) (by first | rfl | exact gx_map (by omega) | exact fill_get (by omega) | (simp; done)) rfl) ?_
                    refine ks_d rfl rfl rfl (opv_ia rfl rfl rfl Try.runUnderlying39 Try.sizeOf3 (by repeat (first | exact List.Mem.head _ | apply List.Mem.tail)) (by first | rfl | exact (Int.toNat_of_nonneg (by omega)).symm) (by first | omega | (simp only [List.length_map]; omega) | (rw [fill_len (by omega)]; omega) | (simp; omega) | (simp; done))) ?_
                    refine ks_d rfl rfl rfl (opv_load rfl rfl Try.isAgg3 (by repeat (first | exact List.Mem.head _ | apply List.Mem.tail)) (by first | rfl | exact gx_map (by omega) | exact fill_get (by omega) | (simp; done)) rfl) ?_
                    refine ks_d rfl rfl rfl (opv_cmp rfl rfl rfl rfl) ?_
                    refine ks_d rfl rfl rfl (opv_move rfl rfl) ?_
                    refine kseq_split 96 rfl (fun hb30 => ?_) (fun hb30 => ?_)
                    ·
                      first | have hb30n := kb_nt hb30 | have hb30n := kb_nf hb30 | have hb30n := hb30
                      first | have hb30m := of_decide_eq_true hb30n | have hb30m := of_decide_eq_false hb30n | have hb30m := kb_eq hb30n | have hb30m := kb_ne hb30n | have hb30m := kb_bne hb30n | have hb30m := kb_nbne hb30n | have hb30m := isIx_t hb30n | have hb30m := isIx_f hb30n | have hb30m := inR_t hb30n | have hb30m := inR_f hb30n | have hb30m := dec_tt hb30n | have hb30m := dec_ff hb30n | have hb30m := hb30n
                      try simp only [List.get_eq_getElem] at hb30n
                      try simp only [List.get_eq_getElem] at hb30m
                      refine ks_skip rfl rfl rfl rfl hb30 (Sub.refl _) ?_
                      refine ks_skip rfl rfl rfl rfl hb30 (Sub.refl _) ?_
                      refine ks_skip rfl rfl rfl rfl hb30 (Sub.refl _) ?_
                      refine ks_skip rfl rfl rfl rfl hb30 (Sub.refl _) ?_
                      refine ks_skip rfl rfl rfl rfl hb30 (Sub.refl _) ?_
                      refine ks_skip rfl rfl rfl rfl hb30 (Sub.refl _) ?_
                      refine ks_skip rfl rfl rfl rfl hb30 (Sub.refl _) ?_
                      refine ks_skip rfl rfl rfl rfl hb30 (Sub.refl _) ?_
                      refine ks_skip rfl rfl rfl rfl hb30 (Sub.refl _) ?_
                      refine ks_d rfl rfl rfl (opv_pick_t rfl rfl rfl hb30) ?_
                      refine ks_d rfl rfl rfl (opv_move rfl rfl) ?_
                      refine ks_skip rfl rfl rfl rfl rfl (Sub.refl _) ?_
                      refine ks_skip rfl rfl rfl rfl rfl (Sub.refl _) ?_
                      refine ks_skip rfl rfl rfl rfl rfl (Sub.refl _) ?_
                      refine ks_d rfl rfl rfl (opv_pick_t rfl rfl rfl rfl) ?_
                      refine ks_nil ?_
                      refine kn_then ?_
                      refine kwp_cond_t rfl rfl ?_
                      refine kwp_seq ?_
                      refine kwp_region ?_
                      refine kops_d rfl rfl (opv_assign rfl rfl) ?_
                      refine kops_nil ?_
                      refine kn_then ?_
                      refine kwp_ret ?_
                      refine kr_block ?_
                      refine kr_then ?_
                      refine kr_then ?_
                      refine kr_block ?_
                      refine kr_then ?_
                      refine kret1 [] rfl rfl ?_ (by (repeat (first | exact Sub.refl _ | exact Sub.nil _ | refine Sub.chunk (by repeat (first | exact Pick.here | apply Pick.there)) (by first | rfl | (simp; done) | (congr 1; omega)) ?_)))
                      first | exact ⟨by rw [dec_t ⟨by omega, by omega, by omega, by omega, fun i hi => hfl i (by omega), fun i hi => har i (by omega), fun i hi => hsl i (by omega)⟩], rfl⟩ | exact ⟨by rw [dec_f (fun h => by have h1 := h.n1; have h2 := h.n6; have h3 := h.al; have h4 := h.s9; omega)], rfl⟩ | exact ⟨by rw [dec_f (fun h => by have h1 := h.fl k (by omega); have h2 := h.ar k (by omega); omega)], rfl⟩ | exact ⟨by rw [dec_f (fun h => by obtain ⟨h1, h2, h3, h4, h5, h6, h7, h8⟩ := h.sl j (by omega); first | omega | exact h5 (by assumption))], rfl⟩
                    ·
                      first | have hb30n := kb_nt hb30 | have hb30n := kb_nf hb30 | have hb30n := hb30
                      first | have hb30m := of_decide_eq_true hb30n | have hb30m := of_decide_eq_false hb30n | have hb30m := kb_eq hb30n | have hb30m := kb_ne hb30n | have hb30m := kb_bne hb30n | have hb30m := kb_nbne hb30n | have hb30m := isIx_t hb30n | have hb30m := isIx_f hb30n | have hb30m := inR_t hb30n | have hb30m := inR_f hb30n | have hb30m := dec_tt hb30n | have hb30m := dec_ff hb30n | have hb30m := hb30n
                      try simp only [List.get_eq_getElem] at hb30n
                      try simp only [List.get_eq_getElem] at hb30m
                      refine ks_gv rfl rfl rfl rfl hb30 (opv_fab rfl rfl fa_83_2 (by repeat (first | exact List.Mem.head _ | apply List.Mem.tail))) ?_
                      refine ks_gv rfl rfl rfl rfl hb30 (opv_load rfl rfl Try.isAgg3 (by repeat (first | exact List.Mem.head _ | apply List.Mem.tail)) (by first | rfl | exact gx_map (by omega) | exact fill_get (by omega) | (simp; done)) rfl) ?_
                      refine ks_gv rfl rfl rfl rfl hb30 (opv_fab rfl rfl fa_47_0 (by repeat (first | exact List.Mem.head _ | apply List.Mem.tail))) ?_
                      refine ks_gv rfl rfl rfl rfl hb30 (opv_load rfl rfl Try.isAgg39 (by repeat (first | exact List.Mem.head _ | apply List.Mem.tail)) (by first | rfl | exact gx_map (by omega) | exact fill_get (by omega) | (simp; done)) rfl) ?_
                      refine ks_gv rfl rfl rfl rfl hb30 (opv_fab rfl rfl fa_83_1 (by repeat (first | exact List.Mem.head _ | apply List.Mem.tail))) ?_
                      refine ks_gv rfl rfl rfl rfl hb30 (opv_load rfl rfl Try.isAgg3 (by repeat (first | exact List.Mem.head _ | apply List.Mem.tail)) (by first | rfl | exact gx_map (by omega) | exact fill_get (by omega) | (simp; done)) rfl) ?_
                      refine ks_gv rfl rfl rfl rfl hb30 (opv_ia rfl rfl rfl Try.runUnderlying39 Try.sizeOf3 (by repeat (first | exact List.Mem.head _ | apply List.Mem.tail)) (by first | rfl | exact (Int.toNat_of_nonneg (by omega)).symm) (by first | omega | (simp only [List.length_map]; omega) | (rw [fill_len (by omega)]; omega) | (simp; omega) | (simp; done))) ?_
                      refine ks_gv rfl rfl rfl rfl hb30 (opv_load rfl rfl Try.isAgg3 (by repeat (first | exact List.Mem.head _ | apply List.Mem.tail)) (by first | rfl | exact gx_map (by omega) | exact fill_get (by omega) | (simp; done)) rfl) ?_
                      refine ks_gv rfl rfl rfl rfl hb30 (opv_cmp rfl rfl rfl rfl) ?_
                      refine ks_d rfl rfl rfl (opv_pick_f rfl rfl rfl hb30) ?_
                      refine ks_d rfl rfl rfl (opv_move rfl rfl) ?_
                      refine kseq_split 107 rfl (fun hb32 => ?_) (fun hb32 => ?_)
                      ·
                        first | have hb32n := kb_nt hb32 | have hb32n := kb_nf hb32 | have hb32n := hb32
                        first | have hb32m := of_decide_eq_true hb32n | have hb32m := of_decide_eq_false hb32n | have hb32m := kb_eq hb32n | have hb32m := kb_ne hb32n | have hb32m := kb_bne hb32n | have hb32m := kb_nbne hb32n | have hb32m := isIx_t hb32n | have hb32m := isIx_f hb32n | have hb32m := inR_t hb32n | have hb32m := inR_f hb32n | have hb32m := dec_tt hb32n | have hb32m := dec_ff hb32n | have hb32m := hb32n
                        try simp only [List.get_eq_getElem] at hb32n
                        try simp only [List.get_eq_getElem] at hb32m
                        refine ks_skip rfl rfl rfl rfl hb32 (Sub.refl _) ?_
                        refine ks_skip rfl rfl rfl rfl hb32 (Sub.refl _) ?_
                        refine ks_skip rfl rfl rfl rfl hb32 (Sub.refl _) ?_
                        refine ks_d rfl rfl rfl (opv_pick_t rfl rfl rfl hb32) ?_
                        refine ks_nil ?_
                        refine kn_then ?_
                        refine kwp_cond_t rfl rfl ?_
                        refine kwp_seq ?_
                        refine kwp_region ?_
                        refine kops_d rfl rfl (opv_assign rfl rfl) ?_
                        refine kops_nil ?_
                        refine kn_then ?_
                        refine kwp_ret ?_
                        refine kr_block ?_
                        refine kr_then ?_
                        refine kr_then ?_
                        refine kr_block ?_
                        refine kr_then ?_
                        refine kret1 [] rfl rfl ?_ (by (repeat (first | exact Sub.refl _ | exact Sub.nil _ | refine Sub.chunk (by repeat (first | exact Pick.here | apply Pick.there)) (by first | rfl | (simp; done) | (congr 1; omega)) ?_)))
                        first | exact ⟨by rw [dec_t ⟨by omega, by omega, by omega, by omega, fun i hi => hfl i (by omega), fun i hi => har i (by omega), fun i hi => hsl i (by omega)⟩], rfl⟩ | exact ⟨by rw [dec_f (fun h => by have h1 := h.n1; have h2 := h.n6; have h3 := h.al; have h4 := h.s9; omega)], rfl⟩ | exact ⟨by rw [dec_f (fun h => by have h1 := h.fl k (by omega); have h2 := h.ar k (by omega); omega)], rfl⟩ | exact ⟨by rw [dec_f (fun h => by obtain ⟨h1, h2, h3, h4, h5, h6, h7, h8⟩ := h.sl j (by omega); first | omega | exact h5 (by assumption))], rfl⟩
                      ·
                        first | have hb32n := kb_nt hb32 | have hb32n := kb_nf hb32 | have hb32n := hb32
                        first | have hb32m := of_decide_eq_true hb32n | have hb32m := of_decide_eq_false hb32n | have hb32m := kb_eq hb32n | have hb32m := kb_ne hb32n | have hb32m := kb_bne hb32n | have hb32m := kb_nbne hb32n | have hb32m := isIx_t hb32n | have hb32m := isIx_f hb32n | have hb32m := inR_t hb32n | have hb32m := inR_f hb32n | have hb32m := dec_tt hb32n | have hb32m := dec_ff hb32n | have hb32m := hb32n
                        try simp only [List.get_eq_getElem] at hb32n
                        try simp only [List.get_eq_getElem] at hb32m
                        refine ks_gv rfl rfl rfl rfl hb32 (opv_fab rfl rfl fa_83_2 (by repeat (first | exact List.Mem.head _ | apply List.Mem.tail))) ?_
                        refine ks_gv rfl rfl rfl rfl hb32 (opv_load rfl rfl Try.isAgg3 (by repeat (first | exact List.Mem.head _ | apply List.Mem.tail)) (by first | rfl | exact gx_map (by omega) | exact fill_get (by omega) | (simp; done)) rfl) ?_
                        refine ks_gv rfl rfl rfl rfl hb32 (opv_cmp rfl rfl rfl rfl) ?_
                        refine ks_d rfl rfl rfl (opv_pick_f rfl rfl rfl hb32) ?_
                        refine ks_nil ?_
                        refine kn_then ?_
                        refine kwp_cond rfl (fun hc34 => ?_) (fun hc34 => ?_)
                        ·
                          first | have hc34n := kb_nt hc34 | have hc34n := kb_nf hc34 | have hc34n := hc34
                          first | have hc34m := of_decide_eq_true hc34n | have hc34m := of_decide_eq_false hc34n | have hc34m := kb_eq hc34n | have hc34m := kb_ne hc34n | have hc34m := kb_bne hc34n | have hc34m := kb_nbne hc34n | have hc34m := isIx_t hc34n | have hc34m := isIx_f hc34n | have hc34m := inR_t hc34n | have hc34m := inR_f hc34n | have hc34m := dec_tt hc34n | have hc34m := dec_ff hc34n | have hc34m := hc34n
                          try simp only [List.get_eq_getElem] at hc34n
                          try simp only [List.get_eq_getElem] at hc34m
                          refine kwp_seq ?_
                          refine kwp_region ?_
                          refine kops_d rfl rfl (opv_assign rfl rfl) ?_
                          refine kops_nil ?_
                          refine kn_then ?_
                          refine kwp_ret ?_
                          refine kr_block ?_
                          refine kr_then ?_
                          refine kr_then ?_
                          refine kr_block ?_
                          refine kr_then ?_
                          refine kret1 [] rfl rfl ?_ (by (repeat (first | exact Sub.refl _ | exact Sub.nil _ | refine Sub.chunk (by repeat (first | exact Pick.here | apply Pick.there)) (by first | rfl | (simp; done) | (congr 1; omega)) ?_)))
                          first | exact ⟨by rw [dec_t ⟨by omega, by omega, by omega, by omega, fun i hi => hfl i (by omega), fun i hi => har i (by omega), fun i hi => hsl i (by omega)⟩], rfl⟩ | exact ⟨by rw [dec_f (fun h => by have h1 := h.n1; have h2 := h.n6; have h3 := h.al; have h4 := h.s9; omega)], rfl⟩ | exact ⟨by rw [dec_f (fun h => by have h1 := h.fl k (by omega); have h2 := h.ar k (by omega); omega)], rfl⟩ | exact ⟨by rw [dec_f (fun h => by obtain ⟨h1, h2, h3, h4, h5, h6, h7, h8⟩ := h.sl j (by omega); first | omega | exact h5 (by assumption))], rfl⟩
                        ·
                          first | have hc34n := kb_nt hc34 | have hc34n := kb_nf hc34 | have hc34n := hc34
                          first | have hc34m := of_decide_eq_true hc34n | have hc34m := of_decide_eq_false hc34n | have hc34m := kb_eq hc34n | have hc34m := kb_ne hc34n | have hc34m := kb_bne hc34n | have hc34m := kb_nbne hc34n | have hc34m := isIx_t hc34n | have hc34m := isIx_f hc34n | have hc34m := inR_t hc34n | have hc34m := inR_f hc34n | have hc34m := dec_tt hc34n | have hc34m := dec_ff hc34n | have hc34m := hc34n
                          try simp only [List.get_eq_getElem] at hc34n
                          try simp only [List.get_eq_getElem] at hc34m
                          refine kwp_skip ?_
                          refine kn_block ?_
                          refine kn_then ?_
                          refine kwp_region ?_
                          refine kops_d rfl rfl (by first | exact opv_add rfl rfl rfl ⟨by omega, by omega⟩ | exact opv_ari rfl rfl rfl rfl) ?_
                          refine kops_d rfl rfl (opv_move rfl rfl) ?_
                          refine kops_nil ?_
                          refine kn_then ?_
                          exact ⟨j + 1, ⟨by (exact ⟨by omega, upto hsl ⟨by omega, by omega, by omega, by omega, by assumption, by omega, by omega, by omega⟩⟩), by (repeat (first | exact Knows.nil _ | refine Knows.cons2 rfl (by first | rfl | (simp; done) | (congr 1; omega)) ?_)), by (repeat (first | exact Sub.refl _ | exact Sub.nil _ | refine Sub.chunk (by repeat (first | exact Pick.here | apply Pick.there)) (by first | rfl | (simp; done) | (congr 1; omega)) ?_))⟩, by omega⟩
            ·
              first | have hc20n := kb_nt hc20 | have hc20n := kb_nf hc20 | have hc20n := hc20
              first | have hc20m := of_decide_eq_true hc20n | have hc20m := of_decide_eq_false hc20n | have hc20m := kb_eq hc20n | have hc20m := kb_ne hc20n | have hc20m := kb_bne hc20n | have hc20m := kb_nbne hc20n | have hc20m := isIx_t hc20n | have hc20m := isIx_f hc20n | have hc20m := inR_t hc20n | have hc20m := inR_f hc20n | have hc20m := dec_tt hc20n | have hc20m := dec_ff hc20n | have hc20m := hc20n
              try simp only [List.get_eq_getElem] at hc20n
              try simp only [List.get_eq_getElem] at hc20m
              refine kwp_exit ?_
              refine ke_then ?_
              refine ke_then ?_
              refine ke_block ?_
              refine kn_then ?_
              refine kwp_seq ?_
              refine kwp_region ?_
              refine kops_d rfl rfl (opv_assign rfl rfl) ?_
              refine kops_nil ?_
              refine kn_then ?_
              refine kwp_ret ?_
              refine kret1 [] rfl rfl ?_ (by (repeat (first | exact Sub.refl _ | exact Sub.nil _ | refine Sub.chunk (by repeat (first | exact Pick.here | apply Pick.there)) (by first | rfl | (simp; done) | (congr 1; omega)) ?_)))
              first | exact ⟨by rw [dec_t ⟨by omega, by omega, by omega, by omega, fun i hi => hfl i (by omega), fun i hi => har i (by omega), fun i hi => hsl i (by omega)⟩], rfl⟩ | exact ⟨by rw [dec_f (fun h => by have h1 := h.n1; have h2 := h.n6; have h3 := h.al; have h4 := h.s9; omega)], rfl⟩ | exact ⟨by rw [dec_f (fun h => by have h1 := h.fl k (by omega); have h2 := h.ar k (by omega); omega)], rfl⟩ | exact ⟨by rw [dec_f (fun h => by obtain ⟨h1, h2, h3, h4, h5, h6, h7, h8⟩ := h.sl j (by omega); first | omega | exact h5 (by assumption))], rfl⟩

set_option maxRecDepth 20000 in
theorem c_spec_CaveValid (af aa al : Option Addr) (nf cf na ca ns cs : Nat) (F A : List Int) (S : List Sill) (hb : nf ≤ 9223372036854775807 ∧ na ≤ 9223372036854775807 ∧ ns ≤ 9223372036854775807) :
    Triple Try.prog 24 [.agg #[.slice af nf cf, .slice aa na ca, .slice al ns cs]] [⟨.slice af nf cf, 1, F.map encI⟩, ⟨.slice aa na ca, 1, A.map encI⟩, ⟨.slice al ns cs, 3, S.map encSill⟩] [] (fun r ch => r = .bool (dec (CaveOk F A S)) ∧ ch = []) := by
  refine triple_start 105 Try.func24 Try.ntmps24 rfl rfl (fun w0 => ?_)
  refine kwp_len (List.Mem.head _) (fun hnf => ?_)
  refine kwp_len (List.Mem.tail _ (List.Mem.head _)) (fun hna => ?_)
  refine kwp_len (List.Mem.tail _ (List.Mem.tail _ (List.Mem.head _))) (fun hns => ?_)
  simp only [List.length_map] at hnf hna hns
  subst hnf hna hns
  refine kwp_seq ?_
  refine kwp_region ?_
  refine kops_step rfl (opk_box' (e := [_, _, _]) 3 rfl rfl rfl rfl (by decide) (fun p1 => ?_))
  refine kops_d rfl rfl (opv_assign rfl rfl) ?_
  refine kops_nil ?_
  refine kn_then ?_
  refine kwp_seq ?_
  refine kwp_seq ?_
  refine kwp_region ?_
  refine kops_d rfl rfl (opv_fab rfl rfl fa_47_0 (by repeat (first | exact List.Mem.head _ | apply List.Mem.tail))) ?_
  refine kops_d rfl rfl (opv_load rfl rfl Try.isAgg39 (by repeat (first | exact List.Mem.head _ | apply List.Mem.tail)) (by first | rfl | exact gx_map (by omega) | exact fill_get (by omega) | (simp; done)) rfl) ?_
  refine kops_d rfl rfl (opv_len rfl rfl rfl Try.runUnderlying39) ?_
  refine kops_step rfl (opk_call rfl Try.call56 rfl (c_spec_l1In _ _ _) ((perm_nil _)) ((Views.nil _)) ?_)
  rintro _ _ ⟨rfl, rfl⟩
  refine kops_d rfl rfl (opv_not rfl rfl) ?_
  refine kops_d rfl rfl (opv_move rfl rfl) ?_
  refine kops_split 11 rfl (fun hb3 => ?_) (fun hb3 => ?_)
  ·
    first | have hb3n := kb_nt hb3 | have hb3n := kb_nf hb3 | have hb3n := hb3
    first | have hb3m := of_decide_eq_true hb3n | have hb3m := of_decide_eq_false hb3n | have hb3m := kb_eq hb3n | have hb3m := kb_ne hb3n | have hb3m := kb_bne hb3n | have hb3m := kb_nbne hb3n | have hb3m := isIx_t hb3n | have hb3m := isIx_f hb3n | have hb3m := inR_t hb3n | have hb3m := inR_f hb3n | have hb3m := dec_tt hb3n | have hb3m := dec_ff hb3n | have hb3m := hb3n
    try simp only [List.get_eq_getElem] at hb3n
    try simp only [List.get_eq_getElem] at hb3m
    refine kops_skip rfl rfl rfl hb3 ?_
    refine kops_skip rfl rfl rfl hb3 ?_
    refine kops_skip rfl rfl rfl hb3 ?_
    refine kops_skip rfl rfl rfl hb3 ?_
    refine kops_skip rfl rfl rfl hb3 ?_
    refine kops_skip rfl rfl rfl hb3 ?_
    refine kops_skip rfl rfl rfl hb3 ?_
    refine kops_d rfl rfl (opv_pick_t rfl rfl rfl hb3) ?_
    refine kops_d rfl rfl (opv_move rfl rfl) ?_
    refine kops_skip rfl rfl rfl rfl ?_
    refine kops_skip rfl rfl rfl rfl ?_
    refine kops_skip rfl rfl rfl rfl ?_
    refine kops_skip rfl rfl rfl rfl ?_
    refine kops_d rfl rfl (opv_pick_t rfl rfl rfl rfl) ?_
    refine kops_nil ?_
    refine kn_then ?_
    refine kwp_cond_t rfl rfl ?_
    refine kwp_seq ?_
    refine kwp_region ?_
    refine kops_d rfl rfl (opv_assign rfl rfl) ?_
    refine kops_nil ?_
    refine kn_then ?_
    refine kwp_ret ?_
    refine kr_then ?_
    refine kret1 [] rfl rfl ?_ (by (repeat (first | exact Sub.refl _ | exact Sub.nil _ | refine Sub.chunk (by repeat (first | exact Pick.here | apply Pick.there)) (by first | rfl | (simp; done) | (congr 1; omega)) ?_)))
    first | exact ⟨by rw [dec_t ⟨by omega, by omega, by omega, by omega, fun i hi => hfl i (by omega), fun i hi => har i (by omega), fun i hi => hsl i (by omega)⟩], rfl⟩ | exact ⟨by rw [dec_f (fun h => by have h1 := h.n1; have h2 := h.n6; have h3 := h.al; have h4 := h.s9; omega)], rfl⟩ | exact ⟨by rw [dec_f (fun h => by have h1 := h.fl k (by omega); have h2 := h.ar k (by omega); omega)], rfl⟩ | exact ⟨by rw [dec_f (fun h => by obtain ⟨h1, h2, h3, h4, h5, h6, h7, h8⟩ := h.sl j (by omega); first | omega | exact h5 (by assumption))], rfl⟩
  ·
    first | have hb3n := kb_nt hb3 | have hb3n := kb_nf hb3 | have hb3n := hb3
    first | have hb3m := of_decide_eq_true hb3n | have hb3m := of_decide_eq_false hb3n | have hb3m := kb_eq hb3n | have hb3m := kb_ne hb3n | have hb3m := kb_bne hb3n | have hb3m := kb_nbne hb3n | have hb3m := isIx_t hb3n | have hb3m := isIx_f hb3n | have hb3m := inR_t hb3n | have hb3m := inR_f hb3n | have hb3m := dec_tt hb3n | have hb3m := dec_ff hb3n | have hb3m := hb3n
    try simp only [List.get_eq_getElem] at hb3n
    try simp only [List.get_eq_getElem] at hb3m
    refine kops_gd rfl rfl rfl hb3 rfl (opv_fab rfl rfl fa_47_1 (by repeat (first | exact List.Mem.head _ | apply List.Mem.tail))) ?_
    refine kops_gd rfl rfl rfl hb3 rfl (opv_load rfl rfl Try.isAgg39 (by repeat (first | exact List.Mem.head _ | apply List.Mem.tail)) (by first | rfl | exact gx_map (by omega) | exact fill_get (by omega) | (simp; done)) rfl) ?_
    refine kops_gd rfl rfl rfl hb3 rfl (opv_len rfl rfl rfl Try.runUnderlying39) ?_
    refine kops_gd rfl rfl rfl hb3 rfl (opv_fab rfl rfl fa_47_0 (by repeat (first | exact List.Mem.head _ | apply List.Mem.tail))) ?_
    refine kops_gd rfl rfl rfl hb3 rfl (opv_load rfl rfl Try.isAgg39 (by repeat (first | exact List.Mem.head _ | apply List.Mem.tail)) (by first | rfl | exact gx_map (by omega) | exact fill_get (by omega) | (simp; done)) rfl) ?_
    refine kops_gd rfl rfl rfl hb3 rfl (opv_len rfl rfl rfl Try.runUnderlying39) ?_
    refine kops_gd rfl rfl rfl hb3 rfl (opv_cmp rfl rfl rfl rfl) ?_
    refine kops_d rfl rfl (opv_pick_f rfl rfl rfl hb3) ?_
    refine kops_d rfl rfl (opv_move rfl rfl) ?_
    refine kops_split 20 rfl (fun hb5 => ?_) (fun hb5 => ?_)
    ·
      first | have hb5n := kb_nt hb5 | have hb5n := kb_nf hb5 | have hb5n := hb5
      first | have hb5m := of_decide_eq_true hb5n | have hb5m := of_decide_eq_false hb5n | have hb5m := kb_eq hb5n | have hb5m := kb_ne hb5n | have hb5m := kb_bne hb5n | have hb5m := kb_nbne hb5n | have hb5m := isIx_t hb5n | have hb5m := isIx_f hb5n | have hb5m := inR_t hb5n | have hb5m := inR_f hb5n | have hb5m := dec_tt hb5n | have hb5m := dec_ff hb5n | have hb5m := hb5n
      try simp only [List.get_eq_getElem] at hb5n
      try simp only [List.get_eq_getElem] at hb5m
      refine kops_skip rfl rfl rfl hb5 ?_
      refine kops_skip rfl rfl rfl hb5 ?_
      refine kops_skip rfl rfl rfl hb5 ?_
      refine kops_skip rfl rfl rfl hb5 ?_
      refine kops_d rfl rfl (opv_pick_t rfl rfl rfl hb5) ?_
      refine kops_nil ?_
      refine kn_then ?_
      refine kwp_cond_t rfl rfl ?_
      refine kwp_seq ?_
      refine kwp_region ?_
      refine kops_d rfl rfl (opv_assign rfl rfl) ?_
      refine kops_nil ?_
      refine kn_then ?_
      refine kwp_ret ?_
      refine kr_then ?_
      refine kret1 [] rfl rfl ?_ (by (repeat (first | exact Sub.refl _ | exact Sub.nil _ | refine Sub.chunk (by repeat (first | exact Pick.here | apply Pick.there)) (by first | rfl | (simp; done) | (congr 1; omega)) ?_)))
      first | exact ⟨by rw [dec_t ⟨by omega, by omega, by omega, by omega, fun i hi => hfl i (by omega), fun i hi => har i (by omega), fun i hi => hsl i (by omega)⟩], rfl⟩ | exact ⟨by rw [dec_f (fun h => by have h1 := h.n1; have h2 := h.n6; have h3 := h.al; have h4 := h.s9; omega)], rfl⟩ | exact ⟨by rw [dec_f (fun h => by have h1 := h.fl k (by omega); have h2 := h.ar k (by omega); omega)], rfl⟩ | exact ⟨by rw [dec_f (fun h => by obtain ⟨h1, h2, h3, h4, h5, h6, h7, h8⟩ := h.sl j (by omega); first | omega | exact h5 (by assumption))], rfl⟩
    ·
      first | have hb5n := kb_nt hb5 | have hb5n := kb_nf hb5 | have hb5n := hb5
      first | have hb5m := of_decide_eq_true hb5n | have hb5m := of_decide_eq_false hb5n | have hb5m := kb_eq hb5n | have hb5m := kb_ne hb5n | have hb5m := kb_bne hb5n | have hb5m := kb_nbne hb5n | have hb5m := isIx_t hb5n | have hb5m := isIx_f hb5n | have hb5m := inR_t hb5n | have hb5m := inR_f hb5n | have hb5m := dec_tt hb5n | have hb5m := dec_ff hb5n | have hb5m := hb5n
      try simp only [List.get_eq_getElem] at hb5n
      try simp only [List.get_eq_getElem] at hb5m
      refine kops_gd rfl rfl rfl hb5 rfl (opv_fab rfl rfl fa_47_2 (by repeat (first | exact List.Mem.head _ | apply List.Mem.tail))) ?_
      refine kops_gd rfl rfl rfl hb5 rfl (opv_load rfl rfl Try.isAgg45 (by repeat (first | exact List.Mem.head _ | apply List.Mem.tail)) (by first | rfl | exact gx_map (by omega) | exact fill_get (by omega) | (simp; done)) rfl) ?_
      refine kops_gd rfl rfl rfl hb5 rfl (opv_len rfl rfl rfl Try.runUnderlying45) ?_
      refine kops_gd rfl rfl rfl hb5 rfl (opv_cmp rfl rfl rfl rfl) ?_
      refine kops_d rfl rfl (opv_pick_f rfl rfl rfl hb5) ?_
      refine kops_nil ?_
      refine kn_then ?_
      refine kwp_cond rfl (fun hc7 => ?_) (fun hc7 => ?_)
      ·
        first | have hc7n := kb_nt hc7 | have hc7n := kb_nf hc7 | have hc7n := hc7
        first | have hc7m := of_decide_eq_true hc7n | have hc7m := of_decide_eq_false hc7n | have hc7m := kb_eq hc7n | have hc7m := kb_ne hc7n | have hc7m := kb_bne hc7n | have hc7m := kb_nbne hc7n | have hc7m := isIx_t hc7n | have hc7m := isIx_f hc7n | have hc7m := inR_t hc7n | have hc7m := inR_f hc7n | have hc7m := dec_tt hc7n | have hc7m := dec_ff hc7n | have hc7m := hc7n
        try simp only [List.get_eq_getElem] at hc7n
        try simp only [List.get_eq_getElem] at hc7m
        refine kwp_seq ?_
        refine kwp_region ?_
        refine kops_d rfl rfl (opv_assign rfl rfl) ?_
        refine kops_nil ?_
        refine kn_then ?_
        refine kwp_ret ?_
        refine kr_then ?_
        refine kret1 [] rfl rfl ?_ (by (repeat (first | exact Sub.refl _ | exact Sub.nil _ | refine Sub.chunk (by repeat (first | exact Pick.here | apply Pick.there)) (by first | rfl | (simp; done) | (congr 1; omega)) ?_)))
        first | exact ⟨by rw [dec_t ⟨by omega, by omega, by omega, by omega, fun i hi => hfl i (by omega), fun i hi => har i (by omega), fun i hi => hsl i (by omega)⟩], rfl⟩ | exact ⟨by rw [dec_f (fun h => by have h1 := h.n1; have h2 := h.n6; have h3 := h.al; have h4 := h.s9; omega)], rfl⟩ | exact ⟨by rw [dec_f (fun h => by have h1 := h.fl k (by omega); have h2 := h.ar k (by omega); omega)], rfl⟩ | exact ⟨by rw [dec_f (fun h => by obtain ⟨h1, h2, h3, h4, h5, h6, h7, h8⟩ := h.sl j (by omega); first | omega | exact h5 (by assumption))], rfl⟩
      ·
        first | have hc7n := kb_nt hc7 | have hc7n := kb_nf hc7 | have hc7n := hc7
        first | have hc7m := of_decide_eq_true hc7n | have hc7m := of_decide_eq_false hc7n | have hc7m := kb_eq hc7n | have hc7m := kb_ne hc7n | have hc7m := kb_bne hc7n | have hc7m := kb_nbne hc7n | have hc7m := isIx_t hc7n | have hc7m := isIx_f hc7n | have hc7m := inR_t hc7n | have hc7m := inR_f hc7n | have hc7m := dec_tt hc7n | have hc7m := dec_ff hc7n | have hc7m := hc7n
        try simp only [List.get_eq_getElem] at hc7n
        try simp only [List.get_eq_getElem] at hc7m
        refine kwp_skip ?_
        refine kn_then ?_
        refine kwp_seq ?_
        refine kwp_seq ?_
        refine kwp_region ?_
        refine kops_d rfl rfl (opv_assign rfl rfl) ?_
        refine kops_nil ?_
        refine kn_then ?_
        refine kwp_block ?_
        refine kwp_loop1 (inv := [(1, _)]) (ic := [⟨.pointer (some p1), _, _⟩])
          (fun (k : Nat) => [(3, .int .i64 k)])
          (fun (k : Nat) => [])
          (fun (k : Nat) => k ≤ F.length ∧ (∀ i, i < k → 0 ≤ gx F i ∧ gx F i ≤ 40) ∧ (∀ i, i < k → 1 ≤ gx A i ∧ gx A i ≤ 9))
          (fun (k : Nat) => F.length - k)
          ⟨0, ⟨by (exact ⟨by omega, fun i hi => by omega, fun i hi => by omega⟩), by (repeat (first | exact Knows.nil _ | refine Knows.cons2 rfl (by first | rfl | (simp; done) | (congr 1; omega)) ?_)), by (repeat (first | exact Sub.refl _ | exact Sub.nil _ | refine Sub.chunk (by repeat (first | exact Pick.here | apply Pick.there)) (by first | rfl | (simp; done) | (congr 1; omega)) ?_))⟩⟩ (fun k hp => ?_)
        obtain ⟨hk, hfl, har⟩ := hp
        refine kwp_seq ?_
        refine kwp_seq ?_
        refine kwp_region ?_
        refine kops_d rfl rfl (opv_move rfl rfl) ?_
        refine kops_d rfl rfl (opv_fab rfl rfl fa_47_0 (by repeat (first | exact List.Mem.head _ | apply List.Mem.tail))) ?_
        refine kops_d rfl rfl (opv_load rfl rfl Try.isAgg39 (by repeat (first | exact List.Mem.head _ | apply List.Mem.tail)) (by first | rfl | exact gx_map (by omega) | exact fill_get (by omega) | (simp; done)) rfl) ?_
        refine kops_d rfl rfl (opv_len rfl rfl rfl Try.runUnderlying39) ?_
        refine kops_d rfl rfl (opv_cmp rfl rfl rfl rfl) ?_
        refine kops_nil ?_
        refine kn_then ?_
        refine kwp_cond rfl (fun hc9 => ?_) (fun hc9 => ?_)
        ·
          first | have hc9n := kb_nt hc9 | have hc9n := kb_nf hc9 | have hc9n := hc9
          first | have hc9m := of_decide_eq_true hc9n | have hc9m := of_decide_eq_false hc9n | have hc9m := kb_eq hc9n | have hc9m := kb_ne hc9n | have hc9m := kb_bne hc9n | have hc9m := kb_nbne hc9n | have hc9m := isIx_t hc9n | have hc9m := isIx_f hc9n | have hc9m := inR_t hc9n | have hc9m := inR_f hc9n | have hc9m := dec_tt hc9n | have hc9m := dec_ff hc9n | have hc9m := hc9n
          try simp only [List.get_eq_getElem] at hc9n
          try simp only [List.get_eq_getElem] at hc9m
          refine kwp_skip ?_
          refine kn_then ?_
          refine kwp_seq ?_
          refine kwp_block ?_
          refine kwp_seq ?_
          refine kwp_region ?_
          refine kops_d rfl rfl (opv_fab rfl rfl fa_47_0 (by repeat (first | exact List.Mem.head _ | apply List.Mem.tail))) ?_
          refine kops_d rfl rfl (opv_load rfl rfl Try.isAgg39 (by repeat (first | exact List.Mem.head _ | apply List.Mem.tail)) (by first | rfl | exact gx_map (by omega) | exact fill_get (by omega) | (simp; done)) rfl) ?_
          refine kops_d rfl rfl (opv_move rfl rfl) ?_
          refine kops_d rfl rfl (opv_ia rfl rfl rfl Try.runUnderlying39 Try.sizeOf3 (by repeat (first | exact List.Mem.head _ | apply List.Mem.tail)) (by first | rfl | exact (Int.toNat_of_nonneg (by omega)).symm) (by first | omega | (simp only [List.length_map]; omega) | (rw [fill_len (by omega)]; omega) | (simp; omega) | (simp; done))) ?_
          refine kops_d rfl rfl (opv_load rfl rfl Try.isAgg3 (by repeat (first | exact List.Mem.head _ | apply List.Mem.tail)) (by first | rfl | exact gx_map (by omega) | exact fill_get (by omega) | (simp; done)) rfl) ?_
          refine kops_step rfl (opk_call rfl Try.call56 rfl (c_spec_l1In _ _ _) ((perm_nil _)) ((Views.nil _)) ?_)
          rintro _ _ ⟨rfl, rfl⟩
          refine kops_d rfl rfl (opv_not rfl rfl) ?_
          refine kops_d rfl rfl (opv_move rfl rfl) ?_
          refine kops_split 40 rfl (fun hb12 => ?_) (fun hb12 => ?_)
          ·
            first | have hb12n := kb_nt hb12 | have hb12n := kb_nf hb12 | have hb12n := hb12
            first | have hb12m := of_decide_eq_true hb12n | have hb12m := of_decide_eq_false hb12n | have hb12m := kb_eq hb12n | have hb12m := kb_ne hb12n | have hb12m := kb_bne hb12n | have hb12m := kb_nbne hb12n | have hb12m := isIx_t hb12n | have hb12m := isIx_f hb12n | have hb12m := inR_t hb12n | have hb12m := inR_f hb12n | have hb12m := dec_tt hb12n | have hb12m := dec_ff hb12n | have hb12m := hb12n
            try simp only [List.get_eq_getElem] at hb12n
            try simp only [List.get_eq_getElem] at hb12m
            refine kops_skip rfl rfl rfl hb12 ?_
            refine kops_skip rfl rfl rfl hb12 ?_
            refine kops_skip rfl rfl rfl hb12 ?_
            refine kops_skip rfl rfl rfl hb12 ?_
            refine kops_skip rfl rfl rfl hb12 ?_
            refine kops_skip rfl rfl rfl hb12 ?_
            refine kops_skip rfl rfl rfl hb12 ?_
            refine kops_d rfl rfl (opv_pick_t rfl rfl rfl hb12) ?_
            refine kops_nil ?_
            refine kn_then ?_
            refine kwp_cond_t rfl rfl ?_
            refine kwp_seq ?_
            refine kwp_region ?_
            refine kops_d rfl rfl (opv_assign rfl rfl) ?_
            refine kops_nil ?_
            refine kn_then ?_
            refine kwp_ret ?_
            refine kr_block ?_
            refine kr_then ?_
            refine kr_then ?_
            refine kr_block ?_
            refine kr_then ?_
            refine kret1 [] rfl rfl ?_ (by (repeat (first | exact Sub.refl _ | exact Sub.nil _ | refine Sub.chunk (by repeat (first | exact Pick.here | apply Pick.there)) (by first | rfl | (simp; done) | (congr 1; omega)) ?_)))
            first | exact ⟨by rw [dec_t ⟨by omega, by omega, by omega, by omega, fun i hi => hfl i (by omega), fun i hi => har i (by omega), fun i hi => hsl i (by omega)⟩], rfl⟩ | exact ⟨by rw [dec_f (fun h => by have h1 := h.n1; have h2 := h.n6; have h3 := h.al; have h4 := h.s9; omega)], rfl⟩ | exact ⟨by rw [dec_f (fun h => by have h1 := h.fl k (by omega); have h2 := h.ar k (by omega); omega)], rfl⟩ | exact ⟨by rw [dec_f (fun h => by obtain ⟨h1, h2, h3, h4, h5, h6, h7, h8⟩ := h.sl j (by omega); first | omega | exact h5 (by assumption))], rfl⟩
          ·
            first | have hb12n := kb_nt hb12 | have hb12n := kb_nf hb12 | have hb12n := hb12
            first | have hb12m := of_decide_eq_true hb12n | have hb12m := of_decide_eq_false hb12n | have hb12m := kb_eq hb12n | have hb12m := kb_ne hb12n | have hb12m := kb_bne hb12n | have hb12m := kb_nbne hb12n | have hb12m := isIx_t hb12n | have hb12m := isIx_f hb12n | have hb12m := inR_t hb12n | have hb12m := inR_f hb12n | have hb12m := dec_tt hb12n | have hb12m := dec_ff hb12n | have hb12m := hb12n
            try simp only [List.get_eq_getElem] at hb12n
            try simp only [List.get_eq_getElem] at hb12m
            refine kops_gd rfl rfl rfl hb12 rfl (opv_fab rfl rfl fa_47_1 (by repeat (first | exact List.Mem.head _ | apply List.Mem.tail))) ?_
            refine kops_gd rfl rfl rfl hb12 rfl (opv_load rfl rfl Try.isAgg39 (by repeat (first | exact List.Mem.head _ | apply List.Mem.tail)) (by first | rfl | exact gx_map (by omega) | exact fill_get (by omega) | (simp; done)) rfl) ?_
            refine kops_gd rfl rfl rfl hb12 rfl (opv_move rfl rfl) ?_
            refine kops_gd rfl rfl rfl hb12 rfl (opv_ia rfl rfl rfl Try.runUnderlying39 Try.sizeOf3 (by repeat (first | exact List.Mem.head _ | apply List.Mem.tail)) (by first | rfl | exact (Int.toNat_of_nonneg (by omega)).symm) (by first | omega | (simp only [List.length_map]; omega) | (rw [fill_len (by omega)]; omega) | (simp; omega) | (simp; done))) ?_
            refine kops_gd rfl rfl rfl hb12 rfl (opv_load rfl rfl Try.isAgg3 (by repeat (first | exact List.Mem.head _ | apply List.Mem.tail)) (by first | rfl | exact gx_map (by omega) | exact fill_get (by omega) | (simp; done)) rfl) ?_
            refine kops_gk rfl rfl rfl hb12 (opk_call rfl Try.call56 rfl (c_spec_l1In _ _ _) ((perm_nil _)) ((Views.nil _)) ?_)
            rintro _ _ ⟨rfl, rfl⟩
            refine kops_gd rfl rfl rfl hb12 rfl (opv_not rfl rfl) ?_
            refine kops_d rfl rfl (opv_pick_f rfl rfl rfl hb12) ?_
            refine kops_nil ?_
            refine kn_then ?_
            refine kwp_cond rfl (fun hc15 => ?_) (fun hc15 => ?_)
            ·
              first | have hc15n := kb_nt hc15 | have hc15n := kb_nf hc15 | have hc15n := hc15
              first | have hc15m := of_decide_eq_true hc15n | have hc15m := of_decide_eq_false hc15n | have hc15m := kb_eq hc15n | have hc15m := kb_ne hc15n | have hc15m := kb_bne hc15n | have hc15m := kb_nbne hc15n | have hc15m := isIx_t hc15n | have hc15m := isIx_f hc15n | have hc15m := inR_t hc15n | have hc15m := inR_f hc15n | have hc15m := dec_tt hc15n | have hc15m := dec_ff hc15n | have hc15m := hc15n
              try simp only [List.get_eq_getElem] at hc15n
              try simp only [List.get_eq_getElem] at hc15m
              refine kwp_seq ?_
              refine kwp_region ?_
              refine kops_d rfl rfl (opv_assign rfl rfl) ?_
              refine kops_nil ?_
              refine kn_then ?_
              refine kwp_ret ?_
              refine kr_block ?_
              refine kr_then ?_
              refine kr_then ?_
              refine kr_block ?_
              refine kr_then ?_
              refine kret1 [] rfl rfl ?_ (by (repeat (first | exact Sub.refl _ | exact Sub.nil _ | refine Sub.chunk (by repeat (first | exact Pick.here | apply Pick.there)) (by first | rfl | (simp; done) | (congr 1; omega)) ?_)))
              first | exact ⟨by rw [dec_t ⟨by omega, by omega, by omega, by omega, fun i hi => hfl i (by omega), fun i hi => har i (by omega), fun i hi => hsl i (by omega)⟩], rfl⟩ | exact ⟨by rw [dec_f (fun h => by have h1 := h.n1; have h2 := h.n6; have h3 := h.al; have h4 := h.s9; omega)], rfl⟩ | exact ⟨by rw [dec_f (fun h => by have h1 := h.fl k (by omega); have h2 := h.ar k (by omega); omega)], rfl⟩ | exact ⟨by rw [dec_f (fun h => by obtain ⟨h1, h2, h3, h4, h5, h6, h7, h8⟩ := h.sl j (by omega); first | omega | exact h5 (by assumption))], rfl⟩
            ·
              first | have hc15n := kb_nt hc15 | have hc15n := kb_nf hc15 | have hc15n := hc15
              first | have hc15m := of_decide_eq_true hc15n | have hc15m := of_decide_eq_false hc15n | have hc15m := kb_eq hc15n | have hc15m := kb_ne hc15n | have hc15m := kb_bne hc15n | have hc15m := kb_nbne hc15n | have hc15m := isIx_t hc15n | have hc15m := isIx_f hc15n | have hc15m := inR_t hc15n | have hc15m := inR_f hc15n | have hc15m := dec_tt hc15n | have hc15m := dec_ff hc15n | have hc15m := hc15n
              try simp only [List.get_eq_getElem] at hc15n
              try simp only [List.get_eq_getElem] at hc15m
              refine kwp_skip ?_
              refine kn_block ?_
              refine kn_then ?_
              refine kwp_region ?_
              refine kops_d rfl rfl (opv_move rfl rfl) ?_
              refine kops_d rfl rfl (by first | exact opv_add rfl rfl rfl ⟨by omega, by omega⟩ | exact opv_ari rfl rfl rfl rfl) ?_
              refine kops_d rfl rfl (opv_assign rfl rfl) ?_
              refine kops_nil ?_
              refine kn_then ?_
              exact ⟨k + 1, ⟨by (exact ⟨by omega, upto hfl (by omega), upto har (by omega)⟩), by (repeat (first | exact Knows.nil _ | refine Knows.cons2 rfl (by first | rfl | (simp; done) | (congr 1; omega)) ?_)), by (repeat (first | exact Sub.refl _ | exact Sub.nil _ | refine Sub.chunk (by repeat (first | exact Pick.here | apply Pick.there)) (by first | rfl | (simp; done) | (congr 1; omega)) ?_))⟩, by omega⟩
        ·
          first | have hc9n := kb_nt hc9 | have hc9n := kb_nf hc9 | have hc9n := hc9
          first | have hc9m := of_decide_eq_true hc9n | have hc9m := of_decide_eq_false hc9n | have hc9m := kb_eq hc9n | have hc9m := kb_ne hc9n | have hc9m := kb_bne hc9n | have hc9m := kb_nbne hc9n | have hc9m := isIx_t hc9n | have hc9m := isIx_f hc9n | have hc9m := inR_t hc9n | have hc9m := inR_f hc9n | have hc9m := dec_tt hc9n | have hc9m := dec_ff hc9n | have hc9m := hc9n
          try simp only [List.get_eq_getElem] at hc9n
          try simp only [List.get_eq_getElem] at hc9m
          refine kwp_exit ?_
          refine ke_then ?_
          refine ke_then ?_
          refine ke_block ?_
          refine kn_then ?_
          refine kwp_seq ?_
          refine kwp_seq ?_
          refine kwp_region ?_
          refine kops_d rfl rfl (opv_assign rfl rfl) ?_
          refine kops_nil ?_
          refine kn_then ?_
          refine kwp_block ?_
          refine kwp_loop1 (inv := [(1, _)]) (ic := [⟨.pointer (some p1), _, _⟩])
            (fun (j : Nat) => [(4, .int .i64 j)])
            (fun (j : Nat) => [])
            (fun (j : Nat) => j ≤ S.length ∧ (∀ i, i < j → SillOk F (gx S i)))
            (fun (j : Nat) => S.length - j)
            ⟨0, ⟨by (exact ⟨by omega, fun i hi => by omega⟩), by (repeat (first | exact Knows.nil _ | refine Knows.cons2 rfl (by first | rfl | (simp; done) | (congr 1; omega)) ?_)), by (repeat (first | exact Sub.refl _ | exact Sub.nil _ | refine Sub.chunk (by repeat (first | exact Pick.here | apply Pick.there)) (by first | rfl | (simp; done) | (congr 1; omega)) ?_))⟩⟩ (fun j hp => ?_)
          obtain ⟨hj, hsl⟩ := hp
          refine kwp_seq ?_
          refine kwp_seq ?_
          refine kwp_region ?_
          refine kops_d rfl rfl (opv_move rfl rfl) ?_
          refine kops_d rfl rfl (opv_fab rfl rfl fa_47_2 (by repeat (first | exact List.Mem.head _ | apply List.Mem.tail))) ?_
          refine kops_d rfl rfl (opv_load rfl rfl Try.isAgg45 (by repeat (first | exact List.Mem.head _ | apply List.Mem.tail)) (by first | rfl | exact gx_map (by omega) | exact fill_get (by omega) | (simp; done)) rfl) ?_
          refine kops_d rfl rfl (opv_len rfl rfl rfl Try.runUnderlying45) ?_
          refine kops_d rfl rfl (opv_cmp rfl rfl rfl rfl) ?_
          refine kops_nil ?_
          refine kn_then ?_
          refine kwp_cond rfl (fun hc17 => ?_) (fun hc17 => ?_)
          ·
            first | have hc17n := kb_nt hc17 | have hc17n := kb_nf hc17 | have hc17n := hc17
            first | have hc17m := of_decide_eq_true hc17n | have hc17m := of_decide_eq_false hc17n | have hc17m := kb_eq hc17n | have hc17m := kb_ne hc17n | have hc17m := kb_bne hc17n | have hc17m := kb_nbne hc17n | have hc17m := isIx_t hc17n | have hc17m := isIx_f hc17n | have hc17m := inR_t hc17n | have hc17m := inR_f hc17n | have hc17m := dec_tt hc17n | have hc17m := dec_ff hc17n | have hc17m := hc17n
            try simp only [List.get_eq_getElem] at hc17n
            try simp only [List.get_eq_getElem] at hc17m
            refine kwp_skip ?_
            refine kn_then ?_
            refine kwp_seq ?_
            refine kwp_block ?_
            refine kwp_seq ?_
            refine kwp_region ?_
            refine kops_d rfl rfl (opv_fab rfl rfl fa_47_2 (by repeat (first | exact List.Mem.head _ | apply List.Mem.tail))) ?_
            refine kops_d rfl rfl (opv_load rfl rfl Try.isAgg45 (by repeat (first | exact List.Mem.head _ | apply List.Mem.tail)) (by first | rfl | exact gx_map (by omega) | exact fill_get (by omega) | (simp; done)) rfl) ?_
            refine kops_d rfl rfl (opv_move rfl rfl) ?_
            refine kops_d rfl rfl (opv_ia rfl rfl rfl Try.runUnderlying45 Try.sizeOf83 (by repeat (first | exact List.Mem.head _ | apply List.Mem.tail)) (by first | rfl | exact (Int.toNat_of_nonneg (by omega)).symm) (by first | omega | (simp only [List.length_map]; omega) | (rw [fill_len (by omega)]; omega) | (simp; omega) | (simp; done))) ?_
            refine kops_d rfl rfl (opv_load_agg rfl rfl Try.isAgg83 Try.sizeOf83 (by repeat (first | exact List.Mem.head _ | apply List.Mem.tail)) (by first | rfl | exact gx_map (by omega) | exact fill_get (by omega) | (simp; done))) ?_
            refine kops_step rfl (opk_alloc' (e := [_, _, _]) 3 rfl Try.zeroValue83 rfl rfl (by decide) (fun p5 => ?_))
            refine kops_step rfl (opk_store_box (e' := [_, _, _]) rfl rfl rfl Try.sizeOf83 rfl (by first | exact one_aw | exact one_int | exact one_sill | decide | (simp [Value.oneCell']; done) | (intro x hx; simp at hx; rcases hx with rfl | rfl | rfl | rfl | rfl <;> rfl)) rfl (by repeat (first | exact Upd.here | apply Upd.there)) ?_)
            refine kops_nil ?_
            refine kn_then ?_
            refine kwp_seq ?_
            refine kwp_draw [(0, true), (1, true), (2, true), (3, true), (4, true), (5, true), (6, false), (7, true), (8, true), (9, true), (10, true), (11, true), (12, true), (13, true), (14, true), (15, false), (16, true), (17, true), (18, true), (19, true), (20, true), (21, true), (22, true), (23, true), (24, true), (25, true), (26, true), (27, true), (28, true), (29, true), (30, true), (31, true), (32, true), (33, true), (34, true), (35, true), (36, true), (37, true), (38, true), (39, true), (40, true), (41, false), (42, true), (43, true)] [] _ drawMixed (by kernel_rfl) (fun _ _ _ h => h) (Sub.refl _) ?_
            refine ks_d rfl rfl rfl (opv_fab rfl rfl fa_83_0 (by repeat (first | exact List.Mem.head _ | apply List.Mem.tail))) ?_
            refine ks_d rfl rfl rfl (opv_load rfl rfl Try.isAgg3 (by repeat (first | exact List.Mem.head _ | apply List.Mem.tail)) (by first | rfl | exact gx_map (by omega) | exact fill_get (by omega) | (simp; done)) rfl) ?_
            refine ks_d rfl rfl rfl (opv_fab rfl rfl fa_47_0 (by repeat (first | exact List.Mem.head _ | apply List.Mem.tail))) ?_
            refine ks_d rfl rfl rfl (opv_load rfl rfl Try.isAgg39 (by repeat (first | exact List.Mem.head _ | apply List.Mem.tail)) (by first | rfl | exact gx_map (by omega) | exact fill_get (by omega) | (simp; done)) rfl) ?_
            refine ks_d rfl rfl rfl (opv_len rfl rfl rfl Try.runUnderlying39) ?_
            refine ks_d rfl rfl rfl (by first | exact opv_sub rfl rfl rfl ⟨by omega, by omega⟩ | exact opv_ari rfl rfl rfl rfl) ?_
            refine ks_k rfl rfl (opk_call rfl Try.call56 rfl (c_spec_l1In _ _ _) ((perm_nil _)) ((Views.nil _)) ?_)
            rintro _ _ ⟨rfl, rfl⟩
            refine ⟨.inl (by (repeat (first | exact Sub.refl _ | exact Sub.nil _ | refine Sub.chunk (by repeat (first | exact Pick.here | apply Pick.there)) (by first | rfl | (simp; done) | (congr 1; omega)) ?_))), ?_⟩
            refine ks_d rfl rfl rfl (opv_not rfl rfl) ?_
            refine ks_d rfl rfl rfl (opv_move rfl rfl) ?_
            refine kseq_split 69 rfl (fun hb20 => ?_) (fun hb20 => ?_)
            ·
              first | have hb20n := kb_nt hb20 | have hb20n := kb_nf hb20 | have hb20n := hb20
              first | have hb20m := of_decide_eq_true hb20n | have hb20m := of_decide_eq_false hb20n | have hb20m := kb_eq hb20n | have hb20m := kb_ne hb20n | have hb20m := kb_bne hb20n | have hb20m := kb_nbne hb20n | have hb20m := isIx_t hb20n | have hb20m := isIx_f hb20n | have hb20m := inR_t hb20n | have hb20m := inR_f hb20n | have hb20m := dec_tt hb20n | have hb20m := dec_ff hb20n | have hb20m := hb20n
              try simp only [List.get_eq_getElem] at hb20n
              try simp only [List.get_eq_getElem] at hb20m
              refine ks_skip rfl rfl rfl rfl hb20 (Sub.refl _) ?_
              refine ks_skip rfl rfl rfl rfl hb20 (Sub.refl _) ?_
              refine ks_skip rfl rfl rfl rfl hb20 (Sub.refl _) ?_
              refine ks_skip rfl rfl rfl rfl hb20 (Sub.refl _) ?_
              refine ks_skip rfl rfl rfl rfl hb20 (Sub.refl _) ?_
              refine ks_skip rfl rfl rfl rfl hb20 (Sub.refl _) ?_
              refine ks_skip rfl rfl rfl rfl hb20 (Sub.refl _) ?_
              refine ks_skip rfl rfl rfl rfl hb20 (Sub.refl _) ?_
              refine ks_d rfl rfl rfl (opv_pick_t rfl rfl rfl hb20) ?_
              refine ks_d rfl rfl rfl (opv_move rfl rfl) ?_
              refine ks_skip rfl rfl rfl rfl rfl (Sub.refl _) ?_
              refine ks_skip rfl rfl rfl rfl rfl (Sub.refl _) ?_
              refine ks_skip rfl rfl rfl rfl rfl (Sub.refl _) ?_
              refine ks_skip rfl rfl rfl rfl rfl (Sub.refl _) ?_
              refine ks_skip rfl rfl rfl rfl rfl (Sub.refl _) ?_
              refine ks_d rfl rfl rfl (opv_pick_t rfl rfl rfl rfl) ?_
              refine ks_d rfl rfl rfl (opv_move rfl rfl) ?_
              refine ks_skip rfl rfl rfl rfl rfl (Sub.refl _) ?_
              refine ks_skip rfl rfl rfl rfl rfl (Sub.refl _) ?_
              refine ks_skip rfl rfl rfl rfl rfl (Sub.refl _) ?_
              refine ks_skip rfl rfl rfl rfl rfl (Sub.refl _) ?_
              refine ks_skip rfl rfl rfl rfl rfl (Sub.refl _) ?_
              refine ks_skip rfl rfl rfl rfl rfl (Sub.refl _) ?_
              refine ks_skip rfl rfl rfl rfl rfl (Sub.refl _) ?_
              refine ks_skip rfl rfl rfl rfl rfl (Sub.refl _) ?_
              refine ks_skip rfl rfl rfl rfl rfl (Sub.refl _) ?_
              refine ks_skip rfl rfl rfl rfl rfl (Sub.refl _) ?_
              refine ks_skip rfl rfl rfl rfl rfl (Sub.refl _) ?_
              refine ks_skip rfl rfl rfl rfl rfl (Sub.refl _) ?_
              refine ks_skip rfl rfl rfl rfl rfl (Sub.refl _) ?_
              refine ks_skip rfl rfl rfl rfl rfl (Sub.refl _) ?_
              refine ks_skip rfl rfl rfl rfl rfl (Sub.refl _) ?_
              refine ks_skip rfl rfl rfl rfl rfl (Sub.refl _) ?_
              refine ks_skip rfl rfl rfl rfl rfl (Sub.refl _) ?_
              refine ks_d rfl rfl rfl (opv_pick_t rfl rfl rfl rfl) ?_
              refine ks_nil ?_
              refine kn_then ?_
              refine kwp_cond_t rfl rfl ?_
              refine kwp_seq ?_
              refine kwp_region ?_
              refine kops_d rfl rfl (opv_assign rfl rfl) ?_
              refine kops_nil ?_
              refine kn_then ?_
              refine kwp_ret ?_
              refine kr_block ?_
              refine kr_then ?_
              refine kr_then ?_
              refine kr_block ?_
              refine kr_then ?_
              refine kret1 [] rfl rfl ?_ (by (repeat (first | exact Sub.refl _ | exact Sub.nil _ | refine Sub.chunk (by repeat (first | exact Pick.here | apply Pick.there)) (by first | rfl | (simp; done) | (congr 1; omega)) ?_)))
              first | exact ⟨by rw [dec_t ⟨by omega, by omega, by omega, by omega, fun i hi => hfl i (by omega), fun i hi => har i (by omega), fun i hi => hsl i (by omega)⟩], rfl⟩ | exact ⟨by rw [dec_f (fun h => by have h1 := h.n1; have h2 := h.n6; have h3 := h.al; have h4 := h.s9; omega)], rfl⟩ | exact ⟨by rw [dec_f (fun h => by have h1 := h.fl k (by omega); have h2 := h.ar k (by omega); omega)], rfl⟩ | exact ⟨by rw [dec_f (fun h => by obtain ⟨h1, h2, h3, h4, h5, h6, h7, h8⟩ := h.sl j (by omega); first | omega | exact h5 (by assumption))], rfl⟩
            ·
              first | have hb20n := kb_nt hb20 | have hb20n := kb_nf hb20 | have hb20n := hb20
              first | have hb20m := of_decide_eq_true hb20n | have hb20m := of_decide_eq_false hb20n | have hb20m := kb_eq hb20n | have hb20m := kb_ne hb20n | have hb20m := kb_bne hb20n | have hb20m := kb_nbne hb20n | have hb20m := isIx_t hb20n | have hb20m := isIx_f hb20n | have hb20m := inR_t hb20n | have hb20m := inR_f hb20n | have hb20m := dec_tt hb20n | have hb20m := dec_ff hb20n | have hb20m := hb20n
              try simp only [List.get_eq_getElem] at hb20n
              try simp only [List.get_eq_getElem] at hb20m
              refine ks_gv rfl rfl rfl rfl hb20 (opv_fab rfl rfl fa_83_1 (by repeat (first | exact List.Mem.head _ | apply List.Mem.tail))) ?_
              refine ks_gv rfl rfl rfl rfl hb20 (opv_load rfl rfl Try.isAgg3 (by repeat (first | exact List.Mem.head _ | apply List.Mem.tail)) (by first | rfl | exact gx_map (by omega) | exact fill_get (by omega) | (simp; done)) rfl) ?_
              refine ks_gv rfl rfl rfl rfl hb20 (opv_fab rfl rfl fa_47_0 (by repeat (first | exact List.Mem.head _ | apply List.Mem.tail))) ?_
              refine ks_gv rfl rfl rfl rfl hb20 (opv_load rfl rfl Try.isAgg39 (by repeat (first | exact List.Mem.head _ | apply List.Mem.tail)) (by first | rfl | exact gx_map (by omega) | exact fill_get (by omega) | (simp; done)) rfl) ?_
              refine ks_gv rfl rfl rfl rfl hb20 (opv_len rfl rfl rfl Try.runUnderlying39) ?_
              refine ks_gv rfl rfl rfl rfl hb20 (by first | exact opv_sub rfl rfl rfl ⟨by omega, by omega⟩ | exact opv_ari rfl rfl rfl rfl) ?_
              refine ks_gk rfl rfl rfl rfl hb20 (opk_call rfl Try.call56 rfl (c_spec_l1In _ _ _) ((perm_nil _)) ((Views.nil _)) ?_)
              rintro _ _ ⟨rfl, rfl⟩
              refine ⟨.inl (by (repeat (first | exact Sub.refl _ | exact Sub.nil _ | refine Sub.chunk (by repeat (first | exact Pick.here | apply Pick.there)) (by first | rfl | (simp; done) | (congr 1; omega)) ?_))), ?_⟩
              refine ks_gv rfl rfl rfl rfl hb20 (opv_not rfl rfl) ?_
              refine ks_d rfl rfl rfl (opv_pick_f rfl rfl rfl hb20) ?_
              refine ks_d rfl rfl rfl (opv_move rfl rfl) ?_
              refine kseq_split 79 rfl (fun hb23 => ?_) (fun hb23 => ?_)
              ·
                first | have hb23n := kb_nt hb23 | have hb23n := kb_nf hb23 | have hb23n := hb23
                first | have hb23m := of_decide_eq_true hb23n | have hb23m := of_decide_eq_false hb23n | have hb23m := kb_eq hb23n | have hb23m := kb_ne hb23n | have hb23m := kb_bne hb23n | have hb23m := kb_nbne hb23n | have hb23m := isIx_t hb23n | have hb23m := isIx_f hb23n | have hb23m := inR_t hb23n | have hb23m := inR_f hb23n | have hb23m := dec_tt hb23n | have hb23m := dec_ff hb23n | have hb23m := hb23n
                try simp only [List.get_eq_getElem] at hb23n
                try simp only [List.get_eq_getElem] at hb23m
                refine ks_skip rfl rfl rfl rfl hb23 (Sub.refl _) ?_
                refine ks_skip rfl rfl rfl rfl hb23 (Sub.refl _) ?_
                refine ks_skip rfl rfl rfl rfl hb23 (Sub.refl _) ?_
                refine ks_skip rfl rfl rfl rfl hb23 (Sub.refl _) ?_
                refine ks_skip rfl rfl rfl rfl hb23 (Sub.refl _) ?_
                refine ks_d rfl rfl rfl (opv_pick_t rfl rfl rfl hb23) ?_
                refine ks_d rfl rfl rfl (opv_move rfl rfl) ?_
                refine ks_skip rfl rfl rfl rfl rfl (Sub.refl _) ?_
                refine ks_skip rfl rfl rfl rfl rfl (Sub.refl _) ?_
                refine ks_skip rfl rfl rfl rfl rfl (Sub.refl _) ?_
                refine ks_skip rfl rfl rfl rfl rfl (Sub.refl _) ?_
                refine ks_skip rfl rfl rfl rfl rfl (Sub.refl _) ?_
                refine ks_skip rfl rfl rfl rfl rfl (Sub.refl _) ?_
                refine ks_skip rfl rfl rfl rfl rfl (Sub.refl _) ?_
                refine ks_skip rfl rfl rfl rfl rfl (Sub.refl _) ?_
                refine ks_skip rfl rfl rfl rfl rfl (Sub.refl _) ?_
                refine ks_skip rfl rfl rfl rfl rfl (Sub.refl _) ?_
                refine ks_skip rfl rfl rfl rfl rfl (Sub.refl _) ?_
                refine ks_skip rfl rfl rfl rfl rfl (Sub.refl _) ?_
                refine ks_skip rfl rfl rfl rfl rfl (Sub.refl _) ?_
                refine ks_skip rfl rfl rfl rfl rfl (Sub.refl _) ?_
                refine ks_skip rfl rfl rfl rfl rfl (Sub.refl _) ?_
                refine ks_skip rfl rfl rfl rfl rfl (Sub.refl _) ?_
                refine ks_skip rfl rfl rfl rfl rfl (Sub.refl _) ?_
                refine ks_d rfl rfl rfl (opv_pick_t rfl rfl rfl rfl) ?_
                refine ks_nil ?_
                refine kn_then ?_
                refine kwp_cond_t rfl rfl ?_
                refine kwp_seq ?_
                refine kwp_region ?_
                refine kops_d rfl rfl (opv_assign rfl rfl) ?_
                refine kops_nil ?_
                refine kn_then ?_
                refine kwp_ret ?_
                refine kr_block ?_
                refine kr_then ?_
                refine kr_then ?_
                refine kr_block ?_
                refine kr_then ?_
                refine kret1 [] rfl rfl ?_ (by (repeat (first | exact Sub.refl _ | exact Sub.nil _ | refine Sub.chunk (by repeat (first | exact Pick.here | apply Pick.there)) (by first | rfl | (simp; done) | (congr 1; omega)) ?_)))
                first | exact ⟨by rw [dec_t ⟨by omega, by omega, by omega, by omega, fun i hi => hfl i (by omega), fun i hi => har i (by omega), fun i hi => hsl i (by omega)⟩], rfl⟩ | exact ⟨by rw [dec_f (fun h => by have h1 := h.n1; have h2 := h.n6; have h3 := h.al; have h4 := h.s9; omega)], rfl⟩ | exact ⟨by rw [dec_f (fun h => by have h1 := h.fl k (by omega); have h2 := h.ar k (by omega); omega)], rfl⟩ | exact ⟨by rw [dec_f (fun h => by obtain ⟨h1, h2, h3, h4, h5, h6, h7, h8⟩ := h.sl j (by omega); first | omega | exact h5 (by assumption))], rfl⟩
              ·
                first | have hb23n := kb_nt hb23 | have hb23n := kb_nf hb23 | have hb23n := hb23
                first | have hb23m := of_decide_eq_true hb23n | have hb23m := of_decide_eq_false hb23n | have hb23m := kb_eq hb23n | have hb23m := kb_ne hb23n | have hb23m := kb_bne hb23n | have hb23m := kb_nbne hb23n | have hb23m := isIx_t hb23n | have hb23m := isIx_f hb23n | have hb23m := inR_t hb23n | have hb23m := inR_f hb23n | have hb23m := dec_tt hb23n | have hb23m := dec_ff hb23n | have hb23m := hb23n
                try simp only [List.get_eq_getElem] at hb23n
                try simp only [List.get_eq_getElem] at hb23m
                refine ks_gv rfl rfl rfl rfl hb23 (opv_fab rfl rfl fa_83_0 (by repeat (first | exact List.Mem.head _ | apply List.Mem.tail))) ?_
                refine ks_gv rfl rfl rfl rfl hb23 (opv_load rfl rfl Try.isAgg3 (by repeat (first | exact List.Mem.head _ | apply List.Mem.tail)) (by first | rfl | exact gx_map (by omega) | exact fill_get (by omega) | (simp; done)) rfl) ?_
                refine ks_gv rfl rfl rfl rfl hb23 (opv_fab rfl rfl fa_83_1 (by repeat (first | exact List.Mem.head _ | apply List.Mem.tail))) ?_
                refine ks_gv rfl rfl rfl rfl hb23 (opv_load rfl rfl Try.isAgg3 (by repeat (first | exact List.Mem.head _ | apply List.Mem.tail)) (by first | rfl | exact gx_map (by omega) | exact fill_get (by omega) | (simp; done)) rfl) ?_
                refine ks_gv rfl rfl rfl rfl hb23 (opv_cmp rfl rfl rfl rfl) ?_
                refine ks_d rfl rfl rfl (opv_pick_f rfl rfl rfl hb23) ?_
                refine ks_d rfl rfl rfl (opv_move rfl rfl) ?_
                refine kseq_split 86 rfl (fun hb25 => ?_) (fun hb25 => ?_)
                ·
                  first | have hb25n := kb_nt hb25 | have hb25n := kb_nf hb25 | have hb25n := hb25
                  first | have hb25m := of_decide_eq_true hb25n | have hb25m := of_decide_eq_false hb25n | have hb25m := kb_eq hb25n | have hb25m := kb_ne hb25n | have hb25m := kb_bne hb25n | have hb25m := kb_nbne hb25n | have hb25m := isIx_t hb25n | have hb25m := isIx_f hb25n | have hb25m := inR_t hb25n | have hb25m := inR_f hb25n | have hb25m := dec_tt hb25n | have hb25m := dec_ff hb25n | have hb25m := hb25n
                  try simp only [List.get_eq_getElem] at hb25n
                  try simp only [List.get_eq_getElem] at hb25m
                  refine ks_skip rfl rfl rfl rfl hb25 (Sub.refl _) ?_
                  refine ks_skip rfl rfl rfl rfl hb25 (Sub.refl _) ?_
                  refine ks_skip rfl rfl rfl rfl hb25 (Sub.refl _) ?_
                  refine ks_skip rfl rfl rfl rfl hb25 (Sub.refl _) ?_
                  refine ks_skip rfl rfl rfl rfl hb25 (Sub.refl _) ?_
                  refine ks_skip rfl rfl rfl rfl hb25 (Sub.refl _) ?_
                  refine ks_skip rfl rfl rfl rfl hb25 (Sub.refl _) ?_
                  refine ks_skip rfl rfl rfl rfl hb25 (Sub.refl _) ?_
                  refine ks_skip rfl rfl rfl rfl hb25 (Sub.refl _) ?_
                  refine ks_skip rfl rfl rfl rfl hb25 (Sub.refl _) ?_
                  refine ks_skip rfl rfl rfl rfl hb25 (Sub.refl _) ?_
                  refine ks_skip rfl rfl rfl rfl hb25 (Sub.refl _) ?_
                  refine ks_skip rfl rfl rfl rfl hb25 (Sub.refl _) ?_
                  refine ks_skip rfl rfl rfl rfl hb25 (Sub.refl _) ?_
                  refine ks_skip rfl rfl rfl rfl hb25 (Sub.refl _) ?_
                  refine ks_skip rfl rfl rfl rfl hb25 (Sub.refl _) ?_
                  refine ks_skip rfl rfl rfl rfl hb25 (Sub.refl _) ?_
                  refine ks_d rfl rfl rfl (opv_pick_t rfl rfl rfl hb25) ?_
                  refine ks_nil ?_
                  refine kn_then ?_
                  refine kwp_cond_t rfl rfl ?_
                  refine kwp_seq ?_
                  refine kwp_region ?_
                  refine kops_d rfl rfl (opv_assign rfl rfl) ?_
                  refine kops_nil ?_
                  refine kn_then ?_
                  refine kwp_ret ?_
                  refine kr_block ?_
                  refine kr_then ?_
                  refine kr_then ?_
                  refine kr_block ?_
                  refine kr_then ?_
                  refine kret1 [] rfl rfl ?_ (by (repeat (first | exact Sub.refl _ | exact Sub.nil _ | refine Sub.chunk (by repeat (first | exact Pick.here | apply Pick.there)) (by first | rfl | (simp; done) | (congr 1; omega)) ?_)))
                  first | exact ⟨by rw [dec_t ⟨by omega, by omega, by omega, by omega, fun i hi => hfl i (by omega), fun i hi => har i (by omega), fun i hi => hsl i (by omega)⟩], rfl⟩ | exact ⟨by rw [dec_f (fun h => by have h1 := h.n1; have h2 := h.n6; have h3 := h.al; have h4 := h.s9; omega)], rfl⟩ | exact ⟨by rw [dec_f (fun h => by have h1 := h.fl k (by omega); have h2 := h.ar k (by omega); omega)], rfl⟩ | exact ⟨by rw [dec_f (fun h => by obtain ⟨h1, h2, h3, h4, h5, h6, h7, h8⟩ := h.sl j (by omega); first | omega | exact h5 (by assumption))], rfl⟩
                ·
                  first | have hb25n := kb_nt hb25 | have hb25n := kb_nf hb25 | have hb25n := hb25
                  first | have hb25m := of_decide_eq_true hb25n | have hb25m := of_decide_eq_false hb25n | have hb25m := kb_eq hb25n | have hb25m := kb_ne hb25n | have hb25m := kb_bne hb25n | have hb25m := kb_nbne hb25n | have hb25m := isIx_t hb25n | have hb25m := isIx_f hb25n | have hb25m := inR_t hb25n | have hb25m := inR_f hb25n | have hb25m := dec_tt hb25n | have hb25m := dec_ff hb25n | have hb25m := hb25n
                  try simp only [List.get_eq_getElem] at hb25n
                  try simp only [List.get_eq_getElem] at hb25m
                  refine ks_gv rfl rfl rfl rfl hb25 (opv_fab rfl rfl fa_83_2 (by repeat (first | exact List.Mem.head _ | apply List.Mem.tail))) ?_
                  refine ks_gv rfl rfl rfl rfl hb25 (opv_load rfl rfl Try.isAgg3 (by repeat (first | exact List.Mem.head _ | apply List.Mem.tail)) (by first | rfl | exact gx_map (by omega) | exact fill_get (by omega) | (simp; done)) rfl) ?_
                  refine ks_gv rfl rfl rfl rfl hb25 (opv_fab rfl rfl fa_47_0 (by repeat (first | exact List.Mem.head _ | apply List.Mem.tail))) ?_
                  refine ks_gv rfl rfl rfl rfl hb25 (opv_load rfl rfl Try.isAgg39 (by repeat (first | exact List.Mem.head _ | apply List.Mem.tail)) (by first | rfl | exact gx_map (by omega) | exact fill_get (by omega) | (simp; done)) rfl) ?_
                  refine ks_gv rfl rfl rfl rfl hb25 (opv_fab rfl rfl fa_83_0 (by repeat (first | exact List.Mem.head _ | apply List.Mem.tail))) ?_
                  refine ks_gv rfl rfl rfl rfl hb25 (opv_load rfl rfl Try.isAgg3 (by repeat (first | exact List.Mem.head _ | apply List.Mem.tail)) (by first | rfl | exact gx_map (by omega) | exact fill_get (by omega) | (simp; done)) rfl) ?_
                  refine ks_gv rfl rfl rfl rfl hb25 (opv_ia rfl rfl rfl Try.runUnderlying39 Try.sizeOf3 (by repeat (first | exact List.Mem.head _ | apply List.Mem.tail)) (by first | rfl | exact (Int.toNat_of_nonneg (by omega)).symm) (by first | omega | (simp only [List.length_map]; omega) | (rw [fill_len (by omega)]; omega) | (simp; omega) | (simp; done))) ?_
                  refine ks_gv rfl rfl rfl rfl hb25 (opv_load rfl rfl Try.isAgg3 (by repeat (first | exact List.Mem.head _ | apply List.Mem.tail)) (by first | rfl | exact gx_map (by omega) | exact fill_get (by omega) | (simp; done)) rfl) ?_
                  refine ks_gv rfl rfl rfl rfl hb25 (opv_fab rfl rfl fa_47_0 (by repeat (first | exact List.Mem.head _ | apply List.Mem.tail))) ?_
                  refine ks_gv rfl rfl rfl rfl hb25 (opv_load rfl rfl Try.isAgg39 (by repeat (first | exact List.Mem.head _ | apply List.Mem.tail)) (by first | rfl | exact gx_map (by omega) | exact fill_get (by omega) | (simp; done)) rfl) ?_
                  refine ks_gv rfl rfl rfl rfl hb25 (opv_fab rfl rfl fa_83_1 (by repeat (first | exact List.Mem.head _ | apply List.Mem.tail))) ?_
                  refine ks_gv rfl rfl rfl rfl hb25 (opv_load rfl rfl Try.isAgg3 (by repeat (first | exact List.Mem.head _ | apply List.Mem.tail)) (by first | rfl | exact gx_map (by omega) | exact fill_get (by omega) | (simp; done)) rfl) ?_
                  refine ks_gv rfl rfl rfl rfl hb25 (opv_ia rfl rfl rfl Try.runUnderlying39 Try.sizeOf3 (by repeat (first | exact List.Mem.head _ | apply List.Mem.tail)) (by first | rfl | exact (Int.toNat_of_nonneg (by omega)).symm) (by first | omega | (simp only [List.length_map]; omega) | (rw [fill_len (by omega)]; omega) | (simp; omega) | (simp; done))) ?_
                  refine ks_gv rfl rfl rfl rfl hb25 (opv_load rfl rfl Try.isAgg3 (by repeat (first | exact List.Mem.head _ | apply List.Mem.tail)) (by first | rfl | exact gx_map (by omega) | exact fill_get (by omega) | (simp; done)) rfl) ?_
                  refine ks_gv rfl rfl rfl rfl hb25 (opv_max rfl rfl rfl) ?_
                  refine ks_gk rfl rfl rfl rfl hb25 (opk_call rfl Try.call56 rfl (c_spec_l1In _ _ _) ((perm_nil _)) ((Views.nil _)) ?_)
                  rintro _ _ ⟨rfl, rfl⟩
                  refine ⟨.inl (by (repeat (first | exact Sub.refl _ | exact Sub.nil _ | refine Sub.chunk (by repeat (first | exact Pick.here | apply Pick.there)) (by first | rfl | (simp; done) | (congr 1; omega)) ?_))), ?_⟩
                  refine ks_gv rfl rfl rfl rfl hb25 (opv_not rfl rfl) ?_
                  refine ks_d rfl rfl rfl (opv_pick_f rfl rfl rfl hb25) ?_
                  refine ks_nil ?_
                  refine kn_then ?_
                  refine kwp_cond rfl (fun hc28 => ?_) (fun hc28 => ?_)
                  ·
                    first | have hc28n := kb_nt hc28 | have hc28n := kb_nf hc28 | have hc28n := hc28
                    first | have hc28m := of_decide_eq_true hc28n | have hc28m := of_decide_eq_false hc28n | have hc28m := kb_eq hc28n | have hc28m := kb_ne hc28n | have hc28m := kb_bne hc28n | have hc28m := kb_nbne hc28n | have hc28m := isIx_t hc28n | have hc28m := isIx_f hc28n | have hc28m := inR_t hc28n | have hc28m := inR_f hc28n | have hc28m := dec_tt hc28n | have hc28m := dec_ff hc28n | have hc28m := hc28n
                    try simp only [List.get_eq_getElem] at hc28n
                    try simp only [List.get_eq_getElem] at hc28m
                    refine kwp_seq ?_
                    refine kwp_region ?_
                    refine kops_d rfl rfl (opv_assign rfl rfl) ?_
                    refine kops_nil ?_
                    refine kn_then ?_
                    refine kwp_ret ?_
                    refine kr_block ?_
                    refine kr_then ?_
                    refine kr_then ?_
                    refine kr_block ?_
                    refine kr_then ?_
                    refine kret1 [] rfl rfl ?_ (by (repeat (first | exact Sub.refl _ | exact Sub.nil _ | refine Sub.chunk (by repeat (first | exact Pick.here | apply Pick.there)) (by first | rfl | (simp; done) | (congr 1; omega)) ?_)))
                    first | exact ⟨by rw [dec_t ⟨by omega, by omega, by omega, by omega, fun i hi => hfl i (by omega), fun i hi => har i (by omega), fun i hi => hsl i (by omega)⟩], rfl⟩ | exact ⟨by rw [dec_f (fun h => by have h1 := h.n1; have h2 := h.n6; have h3 := h.al; have h4 := h.s9; omega)], rfl⟩ | exact ⟨by rw [dec_f (fun h => by have h1 := h.fl k (by omega); have h2 := h.ar k (by omega); omega)], rfl⟩ | exact ⟨by rw [dec_f (fun h => by obtain ⟨h1, h2, h3, h4, h5, h6, h7, h8⟩ := h.sl j (by omega); first | omega | exact h5 (by assumption))], rfl⟩
                  ·
                    first | have hc28n := kb_nt hc28 | have hc28n := kb_nf hc28 | have hc28n := hc28
                    first | have hc28m := of_decide_eq_true hc28n | have hc28m := of_decide_eq_false hc28n | have hc28m := kb_eq hc28n | have hc28m := kb_ne hc28n | have hc28m := kb_bne hc28n | have hc28m := kb_nbne hc28n | have hc28m := isIx_t hc28n | have hc28m := isIx_f hc28n | have hc28m := inR_t hc28n | have hc28m := inR_f hc28n | have hc28m := dec_tt hc28n | have hc28m := dec_ff hc28n | have hc28m := hc28n
                    try simp only [List.get_eq_getElem] at hc28n
                    try simp only [List.get_eq_getElem] at hc28m
                    refine kwp_skip ?_
                    refine kn_block ?_
                    refine kn_then ?_
                    refine kwp_region ?_
                    refine kops_d rfl rfl (opv_move rfl rfl) ?_
                    refine kops_d rfl rfl (by first | exact opv_add rfl rfl rfl ⟨by omega, by omega⟩ | exact opv_ari rfl rfl rfl rfl) ?_
                    refine kops_d rfl rfl (opv_assign rfl rfl) ?_
                    refine kops_nil ?_
                    refine kn_then ?_
                    exact ⟨j + 1, ⟨by (exact ⟨by omega, upto hsl ⟨by omega, by omega, by omega, by omega, by assumption, by omega, by omega, by omega⟩⟩), by (repeat (first | exact Knows.nil _ | refine Knows.cons2 rfl (by first | rfl | (simp; done) | (congr 1; omega)) ?_)), by (repeat (first | exact Sub.refl _ | exact Sub.nil _ | refine Sub.chunk (by repeat (first | exact Pick.here | apply Pick.there)) (by first | rfl | (simp; done) | (congr 1; omega)) ?_))⟩, by omega⟩
          ·
            first | have hc17n := kb_nt hc17 | have hc17n := kb_nf hc17 | have hc17n := hc17
            first | have hc17m := of_decide_eq_true hc17n | have hc17m := of_decide_eq_false hc17n | have hc17m := kb_eq hc17n | have hc17m := kb_ne hc17n | have hc17m := kb_bne hc17n | have hc17m := kb_nbne hc17n | have hc17m := isIx_t hc17n | have hc17m := isIx_f hc17n | have hc17m := inR_t hc17n | have hc17m := inR_f hc17n | have hc17m := dec_tt hc17n | have hc17m := dec_ff hc17n | have hc17m := hc17n
            try simp only [List.get_eq_getElem] at hc17n
            try simp only [List.get_eq_getElem] at hc17m
            refine kwp_exit ?_
            refine ke_then ?_
            refine ke_then ?_
            refine ke_block ?_
            refine kn_then ?_
            refine kwp_seq ?_
            refine kwp_region ?_
            refine kops_d rfl rfl (opv_assign rfl rfl) ?_
            refine kops_nil ?_
            refine kn_then ?_
            refine kwp_ret ?_
            refine kret1 [] rfl rfl ?_ (by (repeat (first | exact Sub.refl _ | exact Sub.nil _ | refine Sub.chunk (by repeat (first | exact Pick.here | apply Pick.there)) (by first | rfl | (simp; done) | (congr 1; omega)) ?_)))
            first | exact ⟨by rw [dec_t ⟨by omega, by omega, by omega, by omega, fun i hi => hfl i (by omega), fun i hi => har i (by omega), fun i hi => hsl i (by omega)⟩], rfl⟩ | exact ⟨by rw [dec_f (fun h => by have h1 := h.n1; have h2 := h.n6; have h3 := h.al; have h4 := h.s9; omega)], rfl⟩ | exact ⟨by rw [dec_f (fun h => by have h1 := h.fl k (by omega); have h2 := h.ar k (by omega); omega)], rfl⟩ | exact ⟨by rw [dec_f (fun h => by obtain ⟨h1, h2, h3, h4, h5, h6, h7, h8⟩ := h.sl j (by omega); first | omega | exact h5 (by assumption))], rfl⟩

set_option maxRecDepth 20000 in
theorem c_laws_FnExactCaveValid (af aa al : Option Addr) (nf cf na ca ns cs : Nat) (F A : List Int) (S : List Sill) (hb : nf ≤ 9223372036854775807 ∧ na ≤ 9223372036854775807 ∧ ns ≤ 9223372036854775807) :
    Triple Try.prog 5 [.agg #[.slice af nf cf, .slice aa na ca, .slice al ns cs]] [⟨.slice af nf cf, 1, F.map encI⟩, ⟨.slice aa na ca, 1, A.map encI⟩, ⟨.slice al ns cs, 3, S.map encSill⟩] [] (fun r ch => r = .bool true ∧ ch = []) := by
  refine triple_start 27 Try.func5 Try.ntmps5 rfl rfl (fun w0 => ?_)
  refine kwp_len (List.Mem.head _) (fun hnf => ?_)
  refine kwp_len (List.Mem.tail _ (List.Mem.head _)) (fun hna => ?_)
  refine kwp_len (List.Mem.tail _ (List.Mem.tail _ (List.Mem.head _))) (fun hns => ?_)
  simp only [List.length_map] at hnf hna hns
  subst hnf hna hns
  refine kwp_seq ?_
  refine kwp_region ?_
  refine kops_step rfl (opk_box' (e := [_, _, _]) 3 rfl rfl rfl rfl (by decide) (fun p1 => ?_))
  refine kops_d rfl rfl (opv_assign rfl rfl) ?_
  refine kops_nil ?_
  refine kn_then ?_
  refine kwp_seq ?_
  refine kwp_region ?_
  refine kops_d rfl rfl (opv_assign rfl rfl) ?_
  refine kops_nil ?_
  refine kn_then ?_
  refine kwp_seq ?_
  refine kwp_region ?_
  refine kops_d rfl rfl (opv_load_box rfl rfl Try.isAgg42 Try.sizeOf42 (by repeat (first | exact List.Mem.head _ | apply List.Mem.tail))) ?_
  refine kops_d rfl rfl (opv_move rfl rfl) ?_
  refine kops_step rfl (opk_call rfl Try.call23 rfl (c_laws_szCave _ _ _ _ _ _ _ _ _ _ ⟨by omega, by omega⟩ ⟨by omega, by omega, by omega⟩) ((perm_nil _)) ((Views.nil _)) ?_)
  rintro _ _ ⟨x9, rfl, hl9, hg9, hx9, rfl⟩
  refine kops_d rfl rfl (opv_assign rfl rfl) ?_
  refine kops_nil ?_
  refine kn_then ?_
  refine kwp_seq ?_
  refine kwp_seq ?_
  refine kwp_region ?_
  refine kops_d rfl rfl (opv_move rfl rfl) ?_
  refine kops_d rfl rfl (opv_cmp rfl rfl rfl rfl) ?_
  refine kops_nil ?_
  refine kn_then ?_
  refine kwp_cond rfl (fun hc2 => ?_) (fun hc2 => ?_)
  ·
    first | have hc2n := kb_nt hc2 | have hc2n := kb_nf hc2 | have hc2n := hc2
    first | have hc2m := of_decide_eq_true hc2n | have hc2m := of_decide_eq_false hc2n | have hc2m := kb_eq hc2n | have hc2m := kb_ne hc2n | have hc2m := kb_bne hc2n | have hc2m := kb_nbne hc2n | have hc2m := isIx_t hc2n | have hc2m := isIx_f hc2n | have hc2m := inR_t hc2n | have hc2m := inR_f hc2n | have hc2m := dec_tt hc2n | have hc2m := dec_ff hc2n | have hc2m := hc2n
    try simp only [List.get_eq_getElem] at hc2n
    try simp only [List.get_eq_getElem] at hc2m
    try (exfalso; simp_all; done; done)
    all_goals
      refine kwp_seq ?_
      refine kwp_region ?_
      refine kops_d rfl rfl (opv_assign rfl rfl) ?_
      refine kops_nil ?_
      refine kn_then ?_
      refine kwp_ret ?_
      refine kr_then ?_
      refine kret1 [] rfl rfl ?_ (by (repeat (first | exact Sub.refl _ | exact Sub.nil _ | refine Sub.chunk (by repeat (first | exact Pick.here | apply Pick.there)) (by first | rfl | (simp; done) | (congr 1; omega)) ?_)))
      exact ⟨rfl, rfl⟩
  ·
    first | have hc2n := kb_nt hc2 | have hc2n := kb_nf hc2 | have hc2n := hc2
    first | have hc2m := of_decide_eq_true hc2n | have hc2m := of_decide_eq_false hc2n | have hc2m := kb_eq hc2n | have hc2m := kb_ne hc2n | have hc2m := kb_bne hc2n | have hc2m := kb_nbne hc2n | have hc2m := isIx_t hc2n | have hc2m := isIx_f hc2n | have hc2m := inR_t hc2n | have hc2m := inR_f hc2n | have hc2m := dec_tt hc2n | have hc2m := dec_ff hc2n | have hc2m := hc2n
    try simp only [List.get_eq_getElem] at hc2n
    try simp only [List.get_eq_getElem] at hc2m
    try (exfalso; simp_all; done; done)
    all_goals
      refine kwp_skip ?_
      refine kn_then ?_
      refine kwp_seq ?_
      refine kwp_region ?_
      refine kops_d rfl rfl (opv_load_box rfl rfl Try.isAgg42 Try.sizeOf42 (by repeat (first | exact List.Mem.head _ | apply List.Mem.tail))) ?_
      refine kops_step rfl (opk_call rfl Try.call25 rfl (c_laws_toCave _ _ _ _ _ _ _ _ _ _ _ _  ⟨by omega, by omega, by omega⟩) ((perm_nil _)) (Views.cons (by repeat (first | exact List.Mem.head _ | apply List.Mem.tail)) (View.refl _) (Views.cons (by repeat (first | exact List.Mem.head _ | apply List.Mem.tail)) (View.refl _) (Views.cons (by repeat (first | exact List.Mem.head _ | apply List.Mem.tail)) (View.refl _) ((Views.nil _))))) ?_)
      rintro _ _ ⟨a13_1, c13_1, a13_2, c13_2, a13_3, c13_3, rfl, rfl⟩
      refine kops_step rfl (opk_call rfl Try.call24 rfl (c_spec_CaveValid _ _ _ _ _ _ _ _ _ _ _ _  ⟨by omega, by omega, by omega⟩) ((perm_nil _)) (Views.cons (by repeat (first | exact List.Mem.head _ | apply List.Mem.tail)) (View.refl _) (Views.cons (by repeat (first | exact List.Mem.head _ | apply List.Mem.tail)) (View.refl _) (Views.cons (by repeat (first | exact List.Mem.head _ | apply List.Mem.tail)) (View.refl _) ((Views.nil _))))) ?_)
      rintro _ _ ⟨rfl, rfl⟩
      refine kops_d rfl rfl (opv_assign rfl rfl) ?_
      refine kops_nil ?_
      refine kn_then ?_
      refine kwp_seq ?_
      refine kwp_region ?_
      refine kops_d rfl rfl (opv_load_box rfl rfl Try.isAgg42 Try.sizeOf42 (by repeat (first | exact List.Mem.head _ | apply List.Mem.tail))) ?_
      refine kops_step rfl (opk_call rfl Try.call25 rfl (c_laws_toCave _ _ _ _ _ _ _ _ _ _ _ _  ⟨by omega, by omega, by omega⟩) ((perm_nil _)) (Views.cons (by repeat (first | exact List.Mem.head _ | apply List.Mem.tail)) (View.refl _) (Views.cons (by repeat (first | exact List.Mem.head _ | apply List.Mem.tail)) (View.refl _) (Views.cons (by repeat (first | exact List.Mem.head _ | apply List.Mem.tail)) (View.refl _) ((Views.nil _))))) ?_)
      rintro _ _ ⟨a16_1, c16_1, a16_2, c16_2, a16_3, c16_3, rfl, rfl⟩
      refine kops_step rfl (opk_alloc' (e := [_, _, _]) 3 rfl Try.zeroValue47 rfl rfl (by decide) (fun p5 => ?_))
      refine kops_step rfl (opk_store_box (e' := [_, _, _]) rfl rfl rfl Try.sizeOf47 rfl (by first | exact one_aw | exact one_int | exact one_sill | decide | (simp [Value.oneCell']; done) | (intro x hx; simp at hx; rcases hx with rfl | rfl | rfl | rfl | rfl <;> rfl)) rfl (by repeat (first | exact Upd.here | apply Upd.there)) ?_)
      refine kops_nil ?_
      refine kn_then ?_
      refine kwp_seq ?_
      refine kwp_region ?_
      refine kops_d rfl rfl (opv_load_box rfl rfl Try.isAgg47 Try.sizeOf47 (by repeat (first | exact List.Mem.head _ | apply List.Mem.tail))) ?_
      refine kops_step rfl (opk_call rfl Try.call26 rfl (c_impl_CaveValid _ _ _ _ _ _ _ _ _ _ _ _  ⟨by omega, by omega, by omega⟩) ((perm_nil _)) (Views.cons (by repeat (first | exact List.Mem.head _ | apply List.Mem.tail)) (View.refl _) (Views.cons (by repeat (first | exact List.Mem.head _ | apply List.Mem.tail)) (View.refl _) (Views.cons (by repeat (first | exact List.Mem.head _ | apply List.Mem.tail)) (View.refl _) ((Views.nil _))))) ?_)
      rintro _ _ ⟨rfl, rfl⟩
      refine kops_d rfl rfl (opv_assign rfl rfl) ?_
      refine kops_nil ?_
      refine kn_then ?_
      refine kwp_seq ?_
      refine kwp_seq ?_
      refine kwp_region ?_
      refine kops_d rfl rfl (opv_move rfl rfl) ?_
      refine kops_d rfl rfl (opv_move rfl rfl) ?_
      refine kops_d rfl rfl (opv_neb rfl rfl rfl Try.underlying4) ?_
      refine kops_nil ?_
      refine kn_then ?_
      refine kwp_cond rfl (fun hc6 => ?_) (fun hc6 => ?_)
      ·
        first | have hc6n := kb_nt hc6 | have hc6n := kb_nf hc6 | have hc6n := hc6
        first | have hc6m := of_decide_eq_true hc6n | have hc6m := of_decide_eq_false hc6n | have hc6m := kb_eq hc6n | have hc6m := kb_ne hc6n | have hc6m := kb_bne hc6n | have hc6m := kb_nbne hc6n | have hc6m := isIx_t hc6n | have hc6m := isIx_f hc6n | have hc6m := inR_t hc6n | have hc6m := inR_f hc6n | have hc6m := dec_tt hc6n | have hc6m := dec_ff hc6n | have hc6m := hc6n
        try simp only [List.get_eq_getElem] at hc6n
        try simp only [List.get_eq_getElem] at hc6m
        try (exfalso; simp_all; done; done)
        all_goals
          refine kwp_seq ?_
          refine kwp_region ?_
          refine kops_d rfl rfl (opv_assign rfl rfl) ?_
          refine kops_nil ?_
          refine kn_then ?_
          refine kwp_ret ?_
          refine kr_then ?_
          refine kret1 [] rfl rfl ?_ (by (repeat (first | exact Sub.refl _ | exact Sub.nil _ | refine Sub.chunk (by repeat (first | exact Pick.here | apply Pick.there)) (by first | rfl | (simp; done) | (congr 1; omega)) ?_)))
          exact ⟨rfl, rfl⟩
      ·
        first | have hc6n := kb_nt hc6 | have hc6n := kb_nf hc6 | have hc6n := hc6
        first | have hc6m := of_decide_eq_true hc6n | have hc6m := of_decide_eq_false hc6n | have hc6m := kb_eq hc6n | have hc6m := kb_ne hc6n | have hc6m := kb_bne hc6n | have hc6m := kb_nbne hc6n | have hc6m := isIx_t hc6n | have hc6m := isIx_f hc6n | have hc6m := inR_t hc6n | have hc6m := inR_f hc6n | have hc6m := dec_tt hc6n | have hc6m := dec_ff hc6n | have hc6m := hc6n
        try simp only [List.get_eq_getElem] at hc6n
        try simp only [List.get_eq_getElem] at hc6m
        try (exfalso; simp_all; done; done)
        all_goals
          refine kwp_skip ?_
          refine kn_then ?_
          refine kwp_seq ?_
          refine kwp_seq ?_
          refine kwp_draw [(0, true), (1, true), (2, false), (3, false), (4, true)] [] _ drawMixed (by kernel_rfl) (fun _ _ _ h => h) (Sub.refl _) ?_
          refine ks_d rfl rfl rfl (opv_load_box rfl rfl Try.isAgg47 Try.sizeOf47 (by repeat (first | exact List.Mem.head _ | apply List.Mem.tail))) ?_
          refine ks_d rfl rfl rfl (opv_load_box rfl rfl Try.isAgg42 Try.sizeOf42 (by repeat (first | exact List.Mem.head _ | apply List.Mem.tail))) ?_
          refine ks_k rfl rfl (opk_call rfl Try.call25 rfl (c_laws_toCave _ _ _ _ _ _ _ _ _ _ _ _  ⟨by omega, by omega, by omega⟩) ((perm_nil _)) (Views.cons (by repeat (first | exact List.Mem.head _ | apply List.Mem.tail)) (View.refl _) (Views.cons (by repeat (first | exact List.Mem.head _ | apply List.Mem.tail)) (View.refl _) (Views.cons (by repeat (first | exact List.Mem.head _ | apply List.Mem.tail)) (View.refl _) ((Views.nil _))))) ?_)
          rintro _ _ ⟨a24_1, c24_1, a24_2, c24_2, a24_3, c24_3, rfl, rfl⟩
          refine ⟨.inl (by (repeat (first | exact Sub.refl _ | exact Sub.nil _ | refine Sub.chunk (by repeat (first | exact Pick.here | apply Pick.there)) (by first | rfl | (simp; done) | (congr 1; omega)) ?_))), ?_⟩
          refine ks_k rfl rfl (opk_call rfl Try.call27 rfl (c_laws_eqCave _ _ _ _ _ _ _ _ _ _ _ _  _ _ _ _ _ _ _ _ _ _ _ _  ⟨by omega, by omega, by omega⟩ ⟨by omega, by omega, by omega⟩) ((perm_nil _)) (Views.cons (by repeat (first | exact List.Mem.head _ | apply List.Mem.tail)) (View.refl _) (Views.cons (by repeat (first | exact List.Mem.head _ | apply List.Mem.tail)) (View.refl _) (Views.cons (by repeat (first | exact List.Mem.head _ | apply List.Mem.tail)) (View.refl _) (Views.cons (by repeat (first | exact List.Mem.head _ | apply List.Mem.tail)) (View.refl _) (Views.cons (by repeat (first | exact List.Mem.head _ | apply List.Mem.tail)) (View.refl _) (Views.cons (by repeat (first | exact List.Mem.head _ | apply List.Mem.tail)) (View.refl _) ((Views.nil _)))))))) ?_)
          rintro _ _ ⟨rfl, rfl⟩
          refine ⟨.inl (by (repeat (first | exact Sub.refl _ | exact Sub.nil _ | refine Sub.chunk (by repeat (first | exact Pick.here | apply Pick.there)) (by first | rfl | (simp; done) | (congr 1; omega)) ?_))), ?_⟩
          refine ks_d rfl rfl rfl (opv_not rfl rfl) ?_
          refine ks_nil ?_
          refine kn_then ?_
          refine kwp_cond rfl (fun hc9 => ?_) (fun hc9 => ?_)
          ·
            first | have hc9n := kb_nt hc9 | have hc9n := kb_nf hc9 | have hc9n := hc9
            first | have hc9m := of_decide_eq_true hc9n | have hc9m := of_decide_eq_false hc9n | have hc9m := kb_eq hc9n | have hc9m := kb_ne hc9n | have hc9m := kb_bne hc9n | have hc9m := kb_nbne hc9n | have hc9m := isIx_t hc9n | have hc9m := isIx_f hc9n | have hc9m := inR_t hc9n | have hc9m := inR_f hc9n | have hc9m := dec_tt hc9n | have hc9m := dec_ff hc9n | have hc9m := hc9n
            try simp only [List.get_eq_getElem] at hc9n
            try simp only [List.get_eq_getElem] at hc9m
            try (exfalso; simp_all; done; done)
            all_goals
              refine kwp_seq ?_
              refine kwp_region ?_
              refine kops_d rfl rfl (opv_assign rfl rfl) ?_
              refine kops_nil ?_
              refine kn_then ?_
              refine kwp_ret ?_
              refine kr_then ?_
              refine kret1 [] rfl rfl ?_ (by (repeat (first | exact Sub.refl _ | exact Sub.nil _ | refine Sub.chunk (by repeat (first | exact Pick.here | apply Pick.there)) (by first | rfl | (simp; done) | (congr 1; omega)) ?_)))
              exact ⟨rfl, rfl⟩
          ·
            first | have hc9n := kb_nt hc9 | have hc9n := kb_nf hc9 | have hc9n := hc9
            first | have hc9m := of_decide_eq_true hc9n | have hc9m := of_decide_eq_false hc9n | have hc9m := kb_eq hc9n | have hc9m := kb_ne hc9n | have hc9m := kb_bne hc9n | have hc9m := kb_nbne hc9n | have hc9m := isIx_t hc9n | have hc9m := isIx_f hc9n | have hc9m := inR_t hc9n | have hc9m := inR_f hc9n | have hc9m := dec_tt hc9n | have hc9m := dec_ff hc9n | have hc9m := hc9n
            try simp only [List.get_eq_getElem] at hc9n
            try simp only [List.get_eq_getElem] at hc9m
            try (exfalso; simp_all; done; done)
            all_goals
              refine kwp_skip ?_
              refine kn_then ?_
              refine kwp_seq ?_
              refine kwp_region ?_
              refine kops_d rfl rfl (opv_assign rfl rfl) ?_
              refine kops_nil ?_
              refine kn_then ?_
              refine kwp_ret ?_
              refine kret1 [] rfl rfl ?_ (by (repeat (first | exact Sub.refl _ | exact Sub.nil _ | refine Sub.chunk (by repeat (first | exact Pick.here | apply Pick.there)) (by first | rfl | (simp; done) | (congr 1; omega)) ?_)))
              exact ⟨rfl, rfl⟩

end Go.Proofs.Ytfgialdcilldiaa
