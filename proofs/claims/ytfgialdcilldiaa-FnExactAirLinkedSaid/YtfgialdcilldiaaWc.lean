/- The walks of some functions, each by its contract; conditions: those that each contract names. -/
import Derived.Test.YtfgialdcilldiaaWb
namespace Go.Proofs.Ytfgialdcilldiaa
open Go
set_option linter.unusedVariables false
set_option linter.unusedSimpArgs false


set_option maxRecDepth 20000 in
theorem c_spec_MineValid (p : Int) (a : Option Addr) (n c : Nat) (l : List Airway) (hb : n ≤ 9223372036854775807) :
    Triple Try.prog 19 [.agg #[.int .i64 p, .slice a n c]] [⟨.slice a n c, 3, l.map encAirway⟩] [] (fun r ch => r = .bool (dec (MineOk p l)) ∧ ch = []) := by
  have hw : (1 ≤ p ∧ p ≤ 5) → IntKind.i64.wrap (p - 1) = p - 1 := fun h => wrap_in (by omega) (by omega)
  refine triple_start 55 Try.func19 Try.ntmps19 rfl rfl (fun w0 => ?_)
  refine kwp_len (List.Mem.head _) (fun hn => ?_)
  simp only [List.length_map] at hn
  subst hn
  refine kwp_seq ?_
  refine kwp_region ?_
  refine kops_step rfl (opk_box' (e := [_, _]) 2 rfl rfl rfl rfl (by decide) (fun p1 => ?_))
  refine kops_d rfl rfl (opv_assign rfl rfl) ?_
  refine kops_nil ?_
  refine kn_then ?_
  refine kwp_seq ?_
  refine kwp_seq ?_
  refine kwp_region ?_
  refine kops_d rfl rfl (opv_assign rfl rfl) ?_
  refine kops_nil ?_
  refine kn_then ?_
  refine kwp_block ?_
  refine kwp_loop1 (inv := [(1, _)]) (ic := [⟨.pointer (some p1), _, _⟩])
    (fun (k : Nat) => [(3, .int .i64 k)])
    (fun (k : Nat) => [])
    (fun (k : Nat) => k ≤ l.length ∧ ((1 ≤ p ∧ p ≤ 5) → ∀ i, i < k → AwOk p (gx l i)))
    (fun (k : Nat) => l.length - k)
    ⟨0, ⟨by (exact ⟨by omega, fun _ i hi => by omega⟩), by (repeat (first | exact Knows.nil _ | refine Knows.cons2 rfl (by first | rfl | (simp; done) | (congr 1; omega)) ?_)), by (repeat (first | exact Sub.refl _ | exact Sub.nil _ | refine Sub.chunk (by repeat (first | exact Pick.here | apply Pick.there)) (by first | rfl | (simp; done) | (congr 1; omega)) ?_))⟩⟩ (fun k hp => ?_)
  obtain ⟨hk, haw⟩ := hp
  refine kwp_seq ?_
  refine kwp_seq ?_
  refine kwp_region ?_
  refine kops_d rfl rfl (opv_move rfl rfl) ?_
  refine kops_d rfl rfl (opv_fab rfl rfl fa_35_1 (by repeat (first | exact List.Mem.head _ | apply List.Mem.tail))) ?_
  refine kops_d rfl rfl (opv_load rfl rfl Try.isAgg33 (by repeat (first | exact List.Mem.head _ | apply List.Mem.tail)) (by first | rfl | exact gx_map (by omega) | exact fill_get (by omega) | (simp; done)) rfl) ?_
  refine kops_d rfl rfl (opv_len rfl rfl rfl Try.runUnderlying33) ?_
  refine kops_d rfl rfl (opv_cmp rfl rfl rfl rfl) ?_
  refine kops_nil ?_
  refine kn_then ?_
  refine kwp_cond rfl (fun hc2 => ?_) (fun hc2 => ?_)
  ·
    first | have hc2n := kb_nt hc2 | have hc2n := kb_nf hc2 | have hc2n := hc2
    first | have hc2m := of_decide_eq_true hc2n | have hc2m := of_decide_eq_false hc2n | have hc2m := kb_eq hc2n | have hc2m := kb_ne hc2n | have hc2m := kb_bne hc2n | have hc2m := kb_nbne hc2n | have hc2m := isIx_t hc2n | have hc2m := isIx_f hc2n | have hc2m := inR_t hc2n | have hc2m := inR_f hc2n | have hc2m := dec_tt hc2n | have hc2m := dec_ff hc2n | have hc2m := hc2n
    try simp only [List.get_eq_getElem] at hc2n
    try simp only [List.get_eq_getElem] at hc2m
    refine kwp_skip ?_
    refine kn_then ?_
    refine kwp_seq ?_
    refine kwp_block ?_
    refine kwp_seq ?_
    refine kwp_region ?_
    refine kops_d rfl rfl (opv_fab rfl rfl fa_35_1 (by repeat (first | exact List.Mem.head _ | apply List.Mem.tail))) ?_
    refine kops_d rfl rfl (opv_load rfl rfl Try.isAgg33 (by repeat (first | exact List.Mem.head _ | apply List.Mem.tail)) (by first | rfl | exact gx_map (by omega) | exact fill_get (by omega) | (simp; done)) rfl) ?_
    refine kops_d rfl rfl (opv_move rfl rfl) ?_
    refine kops_d rfl rfl (opv_ia rfl rfl rfl Try.runUnderlying33 Try.sizeOf77 (by repeat (first | exact List.Mem.head _ | apply List.Mem.tail)) (by first | rfl | exact (Int.toNat_of_nonneg (by omega)).symm) (by first | omega | (simp only [List.length_map]; omega) | (rw [fill_len (by omega)]; omega) | (simp; omega) | (simp; done))) ?_
    refine kops_d rfl rfl (opv_load_agg rfl rfl Try.isAgg77 Try.sizeOf77 (by repeat (first | exact List.Mem.head _ | apply List.Mem.tail)) (by first | rfl | exact gx_map (by omega) | exact fill_get (by omega) | (simp; done))) ?_
    refine kops_step rfl (opk_alloc' (e := [_, _, _]) 3 rfl Try.zeroValue77 rfl rfl (by decide) (fun p4 => ?_))
    refine kops_step rfl (opk_store_box (e' := [_, _, _]) rfl rfl rfl Try.sizeOf77 rfl (by first | exact one_aw | exact one_int | exact one_sill | decide | (simp [Value.oneCell']; done) | (intro x hx; simp at hx; rcases hx with rfl | rfl | rfl | rfl | rfl <;> rfl)) rfl (by repeat (first | exact Upd.here | apply Upd.there)) ?_)
    refine kops_nil ?_
    refine kn_then ?_
    refine kwp_seq ?_
    refine kwp_region ?_
    refine kops_d rfl rfl (opv_fab rfl rfl fa_77_0 (by repeat (first | exact List.Mem.head _ | apply List.Mem.tail))) ?_
    refine kops_d rfl rfl (opv_load rfl rfl Try.isAgg3 (by repeat (first | exact List.Mem.head _ | apply List.Mem.tail)) (by first | rfl | exact gx_map (by omega) | exact fill_get (by omega) | (simp; done)) rfl) ?_
    refine kops_d rfl rfl (opv_fab rfl rfl fa_35_0 (by repeat (first | exact List.Mem.head _ | apply List.Mem.tail))) ?_
    refine kops_d rfl rfl (opv_load rfl rfl Try.isAgg3 (by repeat (first | exact List.Mem.head _ | apply List.Mem.tail)) (by first | rfl | exact gx_map (by omega) | exact fill_get (by omega) | (simp; done)) rfl) ?_
    refine kops_d rfl rfl (by first | exact opv_sub rfl rfl rfl ⟨by omega, by omega⟩ | exact opv_ari rfl rfl rfl rfl) ?_
    refine kops_step rfl (opk_call rfl Try.call56 rfl (c_spec_l1In _ _ _) ((perm_nil _)) ((Views.nil _)) ?_)
    rintro _ _ ⟨rfl, rfl⟩
    refine kops_d rfl rfl (opv_not rfl rfl) ?_
    refine kops_d rfl rfl (opv_move rfl rfl) ?_
    refine kops_split 24 rfl (fun hb5 => ?_) (fun hb5 => ?_)
    ·
      first | have hb5n := kb_nt hb5 | have hb5n := kb_nf hb5 | have hb5n := hb5
      first | have hb5m := of_decide_eq_true hb5n | have hb5m := of_decide_eq_false hb5n | have hb5m := kb_eq hb5n | have hb5m := kb_ne hb5n | have hb5m := kb_bne hb5n | have hb5m := kb_nbne hb5n | have hb5m := isIx_t hb5n | have hb5m := isIx_f hb5n | have hb5m := inR_t hb5n | have hb5m := inR_f hb5n | have hb5m := dec_tt hb5n | have hb5m := dec_ff hb5n | have hb5m := hb5n
      try simp only [List.get_eq_getElem] at hb5n
      try simp only [List.get_eq_getElem] at hb5m
      refine kops_skip rfl rfl rfl hb5 ?_
      refine kops_skip rfl rfl rfl hb5 ?_
      refine kops_skip rfl rfl rfl hb5 ?_
      refine kops_skip rfl rfl rfl hb5 ?_
      refine kops_skip rfl rfl rfl hb5 ?_
      refine kops_skip rfl rfl rfl hb5 ?_
      refine kops_skip rfl rfl rfl hb5 ?_
      refine kops_d rfl rfl (opv_pick_t rfl rfl rfl hb5) ?_
      refine kops_d rfl rfl (opv_move rfl rfl) ?_
      refine kops_skip rfl rfl rfl rfl ?_
      refine kops_skip rfl rfl rfl rfl ?_
      refine kops_skip rfl rfl rfl rfl ?_
      refine kops_skip rfl rfl rfl rfl ?_
      refine kops_skip rfl rfl rfl rfl ?_
      refine kops_d rfl rfl (opv_pick_t rfl rfl rfl rfl) ?_
      refine kops_d rfl rfl (opv_move rfl rfl) ?_
      refine kops_skip rfl rfl rfl rfl ?_
      refine kops_skip rfl rfl rfl rfl ?_
      refine kops_skip rfl rfl rfl rfl ?_
      refine kops_skip rfl rfl rfl rfl ?_
      refine kops_d rfl rfl (opv_pick_t rfl rfl rfl rfl) ?_
      refine kops_nil ?_
      refine kn_then ?_
      refine kwp_cond_t rfl rfl ?_
      refine kwp_seq ?_
      refine kwp_region ?_
      refine kops_d rfl rfl (opv_assign rfl rfl) ?_
      refine kops_nil ?_
      refine kn_then ?_
      refine kwp_ret ?_
      refine kr_block ?_
      refine kr_then ?_
      refine kr_then ?_
      refine kr_block ?_
      refine kr_then ?_
      refine kret1 [] rfl rfl ?_ (by (repeat (first | exact Sub.refl _ | exact Sub.nil _ | refine Sub.chunk (by repeat (first | exact Pick.here | apply Pick.there)) (by first | rfl | (simp; done) | (congr 1; omega)) ?_)))
      first
        | exact ⟨by rw [dec_f (fun h => by have h1 := h.p1; have h2 := h.p5; have h3 := h.n7; omega)], rfl⟩
        | exact ⟨by rw [mine_last (by omega) (by omega) (fun i hi => haw ⟨by omega, by omega⟩ i (by omega))]; exact congrArg Value.bool (decide_eq_decide.2 (by omega)), rfl⟩
        | exact ⟨by rw [dec_f (fun h => by have h8 := h.p1; have h9 := h.p5; have hw5 := hw ⟨h8, h9⟩; obtain ⟨h1, h2, h3, h4, h5, h6, h7⟩ := h.aw k (by omega); first | omega | exact h5 (by assumption))], rfl⟩
    ·
      first | have hb5n := kb_nt hb5 | have hb5n := kb_nf hb5 | have hb5n := hb5
      first | have hb5m := of_decide_eq_true hb5n | have hb5m := of_decide_eq_false hb5n | have hb5m := kb_eq hb5n | have hb5m := kb_ne hb5n | have hb5m := kb_bne hb5n | have hb5m := kb_nbne hb5n | have hb5m := isIx_t hb5n | have hb5m := isIx_f hb5n | have hb5m := inR_t hb5n | have hb5m := inR_f hb5n | have hb5m := dec_tt hb5n | have hb5m := dec_ff hb5n | have hb5m := hb5n
      try simp only [List.get_eq_getElem] at hb5n
      try simp only [List.get_eq_getElem] at hb5m
      refine kops_gd rfl rfl rfl hb5 rfl (opv_fab rfl rfl fa_77_1 (by repeat (first | exact List.Mem.head _ | apply List.Mem.tail))) ?_
      refine kops_gd rfl rfl rfl hb5 rfl (opv_load rfl rfl Try.isAgg3 (by repeat (first | exact List.Mem.head _ | apply List.Mem.tail)) (by first | rfl | exact gx_map (by omega) | exact fill_get (by omega) | (simp; done)) rfl) ?_
      refine kops_gd rfl rfl rfl hb5 rfl (opv_fab rfl rfl fa_35_0 (by repeat (first | exact List.Mem.head _ | apply List.Mem.tail))) ?_
      refine kops_gd rfl rfl rfl hb5 rfl (opv_load rfl rfl Try.isAgg3 (by repeat (first | exact List.Mem.head _ | apply List.Mem.tail)) (by first | rfl | exact gx_map (by omega) | exact fill_get (by omega) | (simp; done)) rfl) ?_
      refine kops_gd rfl rfl rfl hb5 rfl (by first | exact opv_sub rfl rfl rfl ⟨by omega, by omega⟩ | exact opv_ari rfl rfl rfl rfl) ?_
      refine kops_gk rfl rfl rfl hb5 (opk_call rfl Try.call56 rfl (c_spec_l1In _ _ _) ((perm_nil _)) ((Views.nil _)) ?_)
      rintro _ _ ⟨rfl, rfl⟩
      refine kops_gd rfl rfl rfl hb5 rfl (opv_not rfl rfl) ?_
      refine kops_d rfl rfl (opv_pick_f rfl rfl rfl hb5) ?_
      refine kops_d rfl rfl (opv_move rfl rfl) ?_
      refine kops_split 33 rfl (fun hb8 => ?_) (fun hb8 => ?_)
      ·
        first | have hb8n := kb_nt hb8 | have hb8n := kb_nf hb8 | have hb8n := hb8
        first | have hb8m := of_decide_eq_true hb8n | have hb8m := of_decide_eq_false hb8n | have hb8m := kb_eq hb8n | have hb8m := kb_ne hb8n | have hb8m := kb_bne hb8n | have hb8m := kb_nbne hb8n | have hb8m := isIx_t hb8n | have hb8m := isIx_f hb8n | have hb8m := inR_t hb8n | have hb8m := inR_f hb8n | have hb8m := dec_tt hb8n | have hb8m := dec_ff hb8n | have hb8m := hb8n
        try simp only [List.get_eq_getElem] at hb8n
        try simp only [List.get_eq_getElem] at hb8m
        refine kops_skip rfl rfl rfl hb8 ?_
        refine kops_skip rfl rfl rfl hb8 ?_
        refine kops_skip rfl rfl rfl hb8 ?_
        refine kops_skip rfl rfl rfl hb8 ?_
        refine kops_skip rfl rfl rfl hb8 ?_
        refine kops_d rfl rfl (opv_pick_t rfl rfl rfl hb8) ?_
        refine kops_d rfl rfl (opv_move rfl rfl) ?_
        refine kops_skip rfl rfl rfl rfl ?_
        refine kops_skip rfl rfl rfl rfl ?_
        refine kops_skip rfl rfl rfl rfl ?_
        refine kops_skip rfl rfl rfl rfl ?_
        refine kops_d rfl rfl (opv_pick_t rfl rfl rfl rfl) ?_
        refine kops_nil ?_
        refine kn_then ?_
        refine kwp_cond_t rfl rfl ?_
        refine kwp_seq ?_
        refine kwp_region ?_
        refine kops_d rfl rfl (opv_assign rfl rfl) ?_
        refine kops_nil ?_
        refine kn_then ?_
        refine kwp_ret ?_
        refine kr_block ?_
        refine kr_then ?_
        refine kr_then ?_
        refine kr_block ?_
        refine kr_then ?_
        refine kret1 [] rfl rfl ?_ (by (repeat (first | exact Sub.refl _ | exact Sub.nil _ | refine Sub.chunk (by repeat (first | exact Pick.here | apply Pick.there)) (by first | rfl | (simp; done) | (congr 1; omega)) ?_)))
        first
          | exact ⟨by rw [dec_f (fun h => by have h1 := h.p1; have h2 := h.p5; have h3 := h.n7; omega)], rfl⟩
          | exact ⟨by rw [mine_last (by omega) (by omega) (fun i hi => haw ⟨by omega, by omega⟩ i (by omega))]; exact congrArg Value.bool (decide_eq_decide.2 (by omega)), rfl⟩
          | exact ⟨by rw [dec_f (fun h => by have h8 := h.p1; have h9 := h.p5; have hw5 := hw ⟨h8, h9⟩; obtain ⟨h1, h2, h3, h4, h5, h6, h7⟩ := h.aw k (by omega); first | omega | exact h5 (by assumption))], rfl⟩
      ·
        first | have hb8n := kb_nt hb8 | have hb8n := kb_nf hb8 | have hb8n := hb8
        first | have hb8m := of_decide_eq_true hb8n | have hb8m := of_decide_eq_false hb8n | have hb8m := kb_eq hb8n | have hb8m := kb_ne hb8n | have hb8m := kb_bne hb8n | have hb8m := kb_nbne hb8n | have hb8m := isIx_t hb8n | have hb8m := isIx_f hb8n | have hb8m := inR_t hb8n | have hb8m := inR_f hb8n | have hb8m := dec_tt hb8n | have hb8m := dec_ff hb8n | have hb8m := hb8n
        try simp only [List.get_eq_getElem] at hb8n
        try simp only [List.get_eq_getElem] at hb8m
        refine kops_gd rfl rfl rfl hb8 rfl (opv_fab rfl rfl fa_77_0 (by repeat (first | exact List.Mem.head _ | apply List.Mem.tail))) ?_
        refine kops_gd rfl rfl rfl hb8 rfl (opv_load rfl rfl Try.isAgg3 (by repeat (first | exact List.Mem.head _ | apply List.Mem.tail)) (by first | rfl | exact gx_map (by omega) | exact fill_get (by omega) | (simp; done)) rfl) ?_
        refine kops_gd rfl rfl rfl hb8 rfl (opv_fab rfl rfl fa_77_1 (by repeat (first | exact List.Mem.head _ | apply List.Mem.tail))) ?_
        refine kops_gd rfl rfl rfl hb8 rfl (opv_load rfl rfl Try.isAgg3 (by repeat (first | exact List.Mem.head _ | apply List.Mem.tail)) (by first | rfl | exact gx_map (by omega) | exact fill_get (by omega) | (simp; done)) rfl) ?_
        refine kops_gd rfl rfl rfl hb8 rfl (opv_cmp rfl rfl rfl rfl) ?_
        refine kops_d rfl rfl (opv_pick_f rfl rfl rfl hb8) ?_
        refine kops_d rfl rfl (opv_move rfl rfl) ?_
        refine kops_split 40 rfl (fun hb10 => ?_) (fun hb10 => ?_)
        ·
          first | have hb10n := kb_nt hb10 | have hb10n := kb_nf hb10 | have hb10n := hb10
          first | have hb10m := of_decide_eq_true hb10n | have hb10m := of_decide_eq_false hb10n | have hb10m := kb_eq hb10n | have hb10m := kb_ne hb10n | have hb10m := kb_bne hb10n | have hb10m := kb_nbne hb10n | have hb10m := isIx_t hb10n | have hb10m := isIx_f hb10n | have hb10m := inR_t hb10n | have hb10m := inR_f hb10n | have hb10m := dec_tt hb10n | have hb10m := dec_ff hb10n | have hb10m := hb10n
          try simp only [List.get_eq_getElem] at hb10n
          try simp only [List.get_eq_getElem] at hb10m
          refine kops_skip rfl rfl rfl hb10 ?_
          refine kops_skip rfl rfl rfl hb10 ?_
          refine kops_skip rfl rfl rfl hb10 ?_
          refine kops_skip rfl rfl rfl hb10 ?_
          refine kops_d rfl rfl (opv_pick_t rfl rfl rfl hb10) ?_
          refine kops_nil ?_
          refine kn_then ?_
          refine kwp_cond_t rfl rfl ?_
          refine kwp_seq ?_
          refine kwp_region ?_
          refine kops_d rfl rfl (opv_assign rfl rfl) ?_
          refine kops_nil ?_
          refine kn_then ?_
          refine kwp_ret ?_
          refine kr_block ?_
          refine kr_then ?_
          refine kr_then ?_
          refine kr_block ?_
          refine kr_then ?_
          refine kret1 [] rfl rfl ?_ (by (repeat (first | exact Sub.refl _ | exact Sub.nil _ | refine Sub.chunk (by repeat (first | exact Pick.here | apply Pick.there)) (by first | rfl | (simp; done) | (congr 1; omega)) ?_)))
          first
            | exact ⟨by rw [dec_f (fun h => by have h1 := h.p1; have h2 := h.p5; have h3 := h.n7; omega)], rfl⟩
            | exact ⟨by rw [mine_last (by omega) (by omega) (fun i hi => haw ⟨by omega, by omega⟩ i (by omega))]; exact congrArg Value.bool (decide_eq_decide.2 (by omega)), rfl⟩
            | exact ⟨by rw [dec_f (fun h => by have h8 := h.p1; have h9 := h.p5; have hw5 := hw ⟨h8, h9⟩; obtain ⟨h1, h2, h3, h4, h5, h6, h7⟩ := h.aw k (by omega); first | omega | exact h5 (by assumption))], rfl⟩
        ·
          first | have hb10n := kb_nt hb10 | have hb10n := kb_nf hb10 | have hb10n := hb10
          first | have hb10m := of_decide_eq_true hb10n | have hb10m := of_decide_eq_false hb10n | have hb10m := kb_eq hb10n | have hb10m := kb_ne hb10n | have hb10m := kb_bne hb10n | have hb10m := kb_nbne hb10n | have hb10m := isIx_t hb10n | have hb10m := isIx_f hb10n | have hb10m := inR_t hb10n | have hb10m := inR_f hb10n | have hb10m := dec_tt hb10n | have hb10m := dec_ff hb10n | have hb10m := hb10n
          try simp only [List.get_eq_getElem] at hb10n
          try simp only [List.get_eq_getElem] at hb10m
          refine kops_gd rfl rfl rfl hb10 rfl (opv_fab rfl rfl fa_77_2 (by repeat (first | exact List.Mem.head _ | apply List.Mem.tail))) ?_
          refine kops_gd rfl rfl rfl hb10 rfl (opv_load rfl rfl Try.isAgg3 (by repeat (first | exact List.Mem.head _ | apply List.Mem.tail)) (by first | rfl | exact gx_map (by omega) | exact fill_get (by omega) | (simp; done)) rfl) ?_
          refine kops_gk rfl rfl rfl hb10 (opk_call rfl Try.call56 rfl (c_spec_l1In _ _ _) ((perm_nil _)) ((Views.nil _)) ?_)
          rintro _ _ ⟨rfl, rfl⟩
          refine kops_gd rfl rfl rfl hb10 rfl (opv_not rfl rfl) ?_
          refine kops_d rfl rfl (opv_pick_f rfl rfl rfl hb10) ?_
          refine kops_nil ?_
          refine kn_then ?_
          refine kwp_cond rfl (fun hc13 => ?_) (fun hc13 => ?_)
          ·
            first | have hc13n := kb_nt hc13 | have hc13n := kb_nf hc13 | have hc13n := hc13
            first | have hc13m := of_decide_eq_true hc13n | have hc13m := of_decide_eq_false hc13n | have hc13m := kb_eq hc13n | have hc13m := kb_ne hc13n | have hc13m := kb_bne hc13n | have hc13m := kb_nbne hc13n | have hc13m := isIx_t hc13n | have hc13m := isIx_f hc13n | have hc13m := inR_t hc13n | have hc13m := inR_f hc13n | have hc13m := dec_tt hc13n | have hc13m := dec_ff hc13n | have hc13m := hc13n
            try simp only [List.get_eq_getElem] at hc13n
            try simp only [List.get_eq_getElem] at hc13m
            refine kwp_seq ?_
            refine kwp_region ?_
            refine kops_d rfl rfl (opv_assign rfl rfl) ?_
            refine kops_nil ?_
            refine kn_then ?_
            refine kwp_ret ?_
            refine kr_block ?_
            refine kr_then ?_
            refine kr_then ?_
            refine kr_block ?_
            refine kr_then ?_
            refine kret1 [] rfl rfl ?_ (by (repeat (first | exact Sub.refl _ | exact Sub.nil _ | refine Sub.chunk (by repeat (first | exact Pick.here | apply Pick.there)) (by first | rfl | (simp; done) | (congr 1; omega)) ?_)))
            first
              | exact ⟨by rw [dec_f (fun h => by have h1 := h.p1; have h2 := h.p5; have h3 := h.n7; omega)], rfl⟩
              | exact ⟨by rw [mine_last (by omega) (by omega) (fun i hi => haw ⟨by omega, by omega⟩ i (by omega))]; exact congrArg Value.bool (decide_eq_decide.2 (by omega)), rfl⟩
              | exact ⟨by rw [dec_f (fun h => by have h8 := h.p1; have h9 := h.p5; have hw5 := hw ⟨h8, h9⟩; obtain ⟨h1, h2, h3, h4, h5, h6, h7⟩ := h.aw k (by omega); first | omega | exact h5 (by assumption))], rfl⟩
          ·
            first | have hc13n := kb_nt hc13 | have hc13n := kb_nf hc13 | have hc13n := hc13
            first | have hc13m := of_decide_eq_true hc13n | have hc13m := of_decide_eq_false hc13n | have hc13m := kb_eq hc13n | have hc13m := kb_ne hc13n | have hc13m := kb_bne hc13n | have hc13m := kb_nbne hc13n | have hc13m := isIx_t hc13n | have hc13m := isIx_f hc13n | have hc13m := inR_t hc13n | have hc13m := inR_f hc13n | have hc13m := dec_tt hc13n | have hc13m := dec_ff hc13n | have hc13m := hc13n
            try simp only [List.get_eq_getElem] at hc13n
            try simp only [List.get_eq_getElem] at hc13m
            refine kwp_skip ?_
            refine kn_block ?_
            refine kn_then ?_
            refine kwp_region ?_
            refine kops_d rfl rfl (opv_move rfl rfl) ?_
            refine kops_d rfl rfl (by first | exact opv_add rfl rfl rfl ⟨by omega, by omega⟩ | exact opv_ari rfl rfl rfl rfl) ?_
            refine kops_d rfl rfl (opv_assign rfl rfl) ?_
            refine kops_nil ?_
            refine kn_then ?_
            exact ⟨k + 1, ⟨by (exact ⟨by omega, fun h5 => upto (haw h5) (by have hw5 := hw h5; exact ⟨by omega, by omega, by omega, by omega, by assumption, by omega, by omega⟩)⟩), by (repeat (first | exact Knows.nil _ | refine Knows.cons2 rfl (by first | rfl | (simp; done) | (congr 1; omega)) ?_)), by (repeat (first | exact Sub.refl _ | exact Sub.nil _ | refine Sub.chunk (by repeat (first | exact Pick.here | apply Pick.there)) (by first | rfl | (simp; done) | (congr 1; omega)) ?_))⟩, by omega⟩
  ·
    first | have hc2n := kb_nt hc2 | have hc2n := kb_nf hc2 | have hc2n := hc2
    first | have hc2m := of_decide_eq_true hc2n | have hc2m := of_decide_eq_false hc2n | have hc2m := kb_eq hc2n | have hc2m := kb_ne hc2n | have hc2m := kb_bne hc2n | have hc2m := kb_nbne hc2n | have hc2m := isIx_t hc2n | have hc2m := isIx_f hc2n | have hc2m := inR_t hc2n | have hc2m := inR_f hc2n | have hc2m := dec_tt hc2n | have hc2m := dec_ff hc2n | have hc2m := hc2n
    try simp only [List.get_eq_getElem] at hc2n
    try simp only [List.get_eq_getElem] at hc2m
    refine kwp_exit ?_
    refine ke_then ?_
    refine ke_then ?_
    refine ke_block ?_
    refine kn_then ?_
    refine kwp_seq ?_
    refine kwp_region ?_
    refine kops_d rfl rfl (opv_fab rfl rfl fa_35_0 (by repeat (first | exact List.Mem.head _ | apply List.Mem.tail))) ?_
    refine kops_d rfl rfl (opv_load rfl rfl Try.isAgg3 (by repeat (first | exact List.Mem.head _ | apply List.Mem.tail)) (by first | rfl | exact gx_map (by omega) | exact fill_get (by omega) | (simp; done)) rfl) ?_
    refine kops_step rfl (opk_call rfl Try.call56 rfl (c_spec_l1In _ _ _) ((perm_nil _)) ((Views.nil _)) ?_)
    rintro _ _ ⟨rfl, rfl⟩
    refine kops_d rfl rfl (opv_move rfl rfl) ?_
    refine kops_split 49 rfl (fun hb15 => ?_) (fun hb15 => ?_)
    ·
      first | have hb15n := kb_nt hb15 | have hb15n := kb_nf hb15 | have hb15n := hb15
      first | have hb15m := of_decide_eq_true hb15n | have hb15m := of_decide_eq_false hb15n | have hb15m := kb_eq hb15n | have hb15m := kb_ne hb15n | have hb15m := kb_bne hb15n | have hb15m := kb_nbne hb15n | have hb15m := isIx_t hb15n | have hb15m := isIx_f hb15n | have hb15m := inR_t hb15n | have hb15m := inR_f hb15n | have hb15m := dec_tt hb15n | have hb15m := dec_ff hb15n | have hb15m := hb15n
      try simp only [List.get_eq_getElem] at hb15n
      try simp only [List.get_eq_getElem] at hb15m
      refine kops_gd rfl rfl rfl hb15 rfl (opv_fab rfl rfl fa_35_1 (by repeat (first | exact List.Mem.head _ | apply List.Mem.tail))) ?_
      refine kops_gd rfl rfl rfl hb15 rfl (opv_load rfl rfl Try.isAgg33 (by repeat (first | exact List.Mem.head _ | apply List.Mem.tail)) (by first | rfl | exact gx_map (by omega) | exact fill_get (by omega) | (simp; done)) rfl) ?_
      refine kops_gd rfl rfl rfl hb15 rfl (opv_len rfl rfl rfl Try.runUnderlying33) ?_
      refine kops_gd rfl rfl rfl hb15 rfl (opv_cmp rfl rfl rfl rfl) ?_
      refine kops_d rfl rfl (opv_pick_t rfl rfl rfl hb15) ?_
      refine kops_d rfl rfl (opv_assign rfl rfl) ?_
      refine kops_nil ?_
      refine kn_then ?_
      refine kwp_ret ?_
      refine kret1 [] rfl rfl ?_ (by (repeat (first | exact Sub.refl _ | exact Sub.nil _ | refine Sub.chunk (by repeat (first | exact Pick.here | apply Pick.there)) (by first | rfl | (simp; done) | (congr 1; omega)) ?_)))
      first
        | exact ⟨by rw [dec_f (fun h => by have h1 := h.p1; have h2 := h.p5; have h3 := h.n7; omega)], rfl⟩
        | exact ⟨by rw [mine_last (by omega) (by omega) (fun i hi => haw ⟨by omega, by omega⟩ i (by omega))]; exact congrArg Value.bool (decide_eq_decide.2 (by omega)), rfl⟩
        | exact ⟨by rw [dec_f (fun h => by have h8 := h.p1; have h9 := h.p5; have hw5 := hw ⟨h8, h9⟩; obtain ⟨h1, h2, h3, h4, h5, h6, h7⟩ := h.aw k (by omega); first | omega | exact h5 (by assumption))], rfl⟩
    ·
      first | have hb15n := kb_nt hb15 | have hb15n := kb_nf hb15 | have hb15n := hb15
      first | have hb15m := of_decide_eq_true hb15n | have hb15m := of_decide_eq_false hb15n | have hb15m := kb_eq hb15n | have hb15m := kb_ne hb15n | have hb15m := kb_bne hb15n | have hb15m := kb_nbne hb15n | have hb15m := isIx_t hb15n | have hb15m := isIx_f hb15n | have hb15m := inR_t hb15n | have hb15m := inR_f hb15n | have hb15m := dec_tt hb15n | have hb15m := dec_ff hb15n | have hb15m := hb15n
      try simp only [List.get_eq_getElem] at hb15n
      try simp only [List.get_eq_getElem] at hb15m
      refine kops_skip rfl rfl rfl hb15 ?_
      refine kops_skip rfl rfl rfl hb15 ?_
      refine kops_skip rfl rfl rfl hb15 ?_
      refine kops_skip rfl rfl rfl hb15 ?_
      refine kops_d rfl rfl (opv_pick_f rfl rfl rfl hb15) ?_
      refine kops_d rfl rfl (opv_assign rfl rfl) ?_
      refine kops_nil ?_
      refine kn_then ?_
      refine kwp_ret ?_
      refine kret1 [] rfl rfl ?_ (by (repeat (first | exact Sub.refl _ | exact Sub.nil _ | refine Sub.chunk (by repeat (first | exact Pick.here | apply Pick.there)) (by first | rfl | (simp; done) | (congr 1; omega)) ?_)))
      first
        | exact ⟨by rw [dec_f (fun h => by have h1 := h.p1; have h2 := h.p5; have h3 := h.n7; omega)], rfl⟩
        | exact ⟨by rw [mine_last (by omega) (by omega) (fun i hi => haw ⟨by omega, by omega⟩ i (by omega))]; exact congrArg Value.bool (decide_eq_decide.2 (by omega)), rfl⟩
        | exact ⟨by rw [dec_f (fun h => by have h8 := h.p1; have h9 := h.p5; have hw5 := hw ⟨h8, h9⟩; obtain ⟨h1, h2, h3, h4, h5, h6, h7⟩ := h.aw k (by omega); first | omega | exact h5 (by assumption))], rfl⟩

set_option maxRecDepth 20000 in
theorem c_laws_FnExactMineValid (p : Int) (a : Option Addr) (n c : Nat) (l : List Airway) (hb : n ≤ 9223372036854775807) (hp : -9223372036854775808 ≤ p ∧ p ≤ 9223372036854775807) :
    Triple Try.prog 4 [.agg #[.int .i64 p, .slice a n c]] [⟨.slice a n c, 3, l.map encAirway⟩] [] (fun r ch => r = .bool true ∧ ch = []) := by
  refine triple_start 27 Try.func4 Try.ntmps4 rfl rfl (fun w0 => ?_)
  refine kwp_len (List.Mem.head _) (fun hn => ?_)
  simp only [List.length_map] at hn
  subst hn
  refine kwp_seq ?_
  refine kwp_region ?_
  refine kops_step rfl (opk_box' (e := [_, _]) 2 rfl rfl rfl rfl (by decide) (fun p1 => ?_))
  refine kops_d rfl rfl (opv_assign rfl rfl) ?_
  refine kops_nil ?_
  refine kn_then ?_
  refine kwp_seq ?_
  refine kwp_region ?_
  refine kops_d rfl rfl (opv_assign rfl rfl) ?_
  refine kops_nil ?_
  refine kn_then ?_
  refine kwp_seq ?_
  refine kwp_region ?_
  refine kops_d rfl rfl (opv_load_box rfl rfl Try.isAgg30 Try.sizeOf30 (by repeat (first | exact List.Mem.head _ | apply List.Mem.tail))) ?_
  refine kops_d rfl rfl (opv_move rfl rfl) ?_
  refine kops_step rfl (opk_call rfl Try.call18 rfl (c_laws_szMine _ _ _ _ _ ⟨by omega, by omega⟩ (by omega)) ((perm_nil _)) ((Views.nil _)) ?_)
  rintro _ _ ⟨x9, rfl, hl9, hg9, hx9, rfl⟩
  refine kops_d rfl rfl (opv_assign rfl rfl) ?_
  refine kops_nil ?_
  refine kn_then ?_
  refine kwp_seq ?_
  refine kwp_seq ?_
  refine kwp_region ?_
  refine kops_d rfl rfl (opv_move rfl rfl) ?_
  refine kops_d rfl rfl (opv_cmp rfl rfl rfl rfl) ?_
  refine kops_nil ?_
  refine kn_then ?_
  refine kwp_cond rfl (fun hc2 => ?_) (fun hc2 => ?_)
  ·
    first | have hc2n := kb_nt hc2 | have hc2n := kb_nf hc2 | have hc2n := hc2
    first | have hc2m := of_decide_eq_true hc2n | have hc2m := of_decide_eq_false hc2n | have hc2m := kb_eq hc2n | have hc2m := kb_ne hc2n | have hc2m := kb_bne hc2n | have hc2m := kb_nbne hc2n | have hc2m := isIx_t hc2n | have hc2m := isIx_f hc2n | have hc2m := inR_t hc2n | have hc2m := inR_f hc2n | have hc2m := dec_tt hc2n | have hc2m := dec_ff hc2n | have hc2m := hc2n
    try simp only [List.get_eq_getElem] at hc2n
    try simp only [List.get_eq_getElem] at hc2m
    try (exfalso; simp_all; done; done)
    all_goals
      refine kwp_seq ?_
      refine kwp_region ?_
      refine kops_d rfl rfl (opv_assign rfl rfl) ?_
      refine kops_nil ?_
      refine kn_then ?_
      refine kwp_ret ?_
      refine kr_then ?_
      refine kret1 [] rfl rfl ?_ (by (repeat (first | exact Sub.refl _ | exact Sub.nil _ | refine Sub.chunk (by repeat (first | exact Pick.here | apply Pick.there)) (by first | rfl | (simp; done) | (congr 1; omega)) ?_)))
      exact ⟨rfl, rfl⟩
  ·
    first | have hc2n := kb_nt hc2 | have hc2n := kb_nf hc2 | have hc2n := hc2
    first | have hc2m := of_decide_eq_true hc2n | have hc2m := of_decide_eq_false hc2n | have hc2m := kb_eq hc2n | have hc2m := kb_ne hc2n | have hc2m := kb_bne hc2n | have hc2m := kb_nbne hc2n | have hc2m := isIx_t hc2n | have hc2m := isIx_f hc2n | have hc2m := inR_t hc2n | have hc2m := inR_f hc2n | have hc2m := dec_tt hc2n | have hc2m := dec_ff hc2n | have hc2m := hc2n
    try simp only [List.get_eq_getElem] at hc2n
    try simp only [List.get_eq_getElem] at hc2m
    try (exfalso; simp_all; done; done)
    all_goals
      refine kwp_skip ?_
      refine kn_then ?_
      refine kwp_seq ?_
      refine kwp_region ?_
      refine kops_d rfl rfl (opv_load_box rfl rfl Try.isAgg30 Try.sizeOf30 (by repeat (first | exact List.Mem.head _ | apply List.Mem.tail))) ?_
      refine kops_step rfl (opk_call rfl Try.call20 rfl (c_laws_toMine _ _ _ _ _ (by omega)) ((perm_nil _)) (Views.cons (by repeat (first | exact List.Mem.head _ | apply List.Mem.tail)) (View.refl _) ((Views.nil _))) ?_)
      rintro _ _ ⟨a13, c13, rfl, rfl⟩
      refine kops_step rfl (opk_call rfl Try.call19 rfl (c_spec_MineValid _ _ _ _ _ (by omega)) ((perm_nil _)) (Views.cons (by repeat (first | exact List.Mem.head _ | apply List.Mem.tail)) (View.refl _) ((Views.nil _))) ?_)
      rintro _ _ ⟨rfl, rfl⟩
      refine kops_d rfl rfl (opv_assign rfl rfl) ?_
      refine kops_nil ?_
      refine kn_then ?_
      refine kwp_seq ?_
      refine kwp_region ?_
      refine kops_d rfl rfl (opv_load_box rfl rfl Try.isAgg30 Try.sizeOf30 (by repeat (first | exact List.Mem.head _ | apply List.Mem.tail))) ?_
      refine kops_step rfl (opk_call rfl Try.call20 rfl (c_laws_toMine _ _ _ _ _ (by omega)) ((perm_nil _)) (Views.cons (by repeat (first | exact List.Mem.head _ | apply List.Mem.tail)) (View.refl _) ((Views.nil _))) ?_)
      rintro _ _ ⟨a16, c16, rfl, rfl⟩
      refine kops_step rfl (opk_alloc' (e := [_, _]) 2 rfl Try.zeroValue35 rfl rfl (by decide) (fun p5 => ?_))
      refine kops_step rfl (opk_store_box (e' := [_, _]) rfl rfl rfl Try.sizeOf35 rfl (by first | exact one_aw | exact one_int | exact one_sill | decide | (simp [Value.oneCell']; done) | (intro x hx; simp at hx; rcases hx with rfl | rfl | rfl | rfl | rfl <;> rfl)) rfl (by repeat (first | exact Upd.here | apply Upd.there)) ?_)
      refine kops_nil ?_
      refine kn_then ?_
      refine kwp_seq ?_
      refine kwp_region ?_
      refine kops_d rfl rfl (opv_load_box rfl rfl Try.isAgg35 Try.sizeOf35 (by repeat (first | exact List.Mem.head _ | apply List.Mem.tail))) ?_
      refine kops_step rfl (opk_call rfl Try.call21 rfl (c_impl_MineValid _ _ _ _ _ (by omega)) ((perm_nil _)) (Views.cons (by repeat (first | exact List.Mem.head _ | apply List.Mem.tail)) (View.refl _) ((Views.nil _))) ?_)
      rintro _ _ ⟨rfl, rfl⟩
      refine kops_d rfl rfl (opv_assign rfl rfl) ?_
      refine kops_nil ?_
      refine kn_then ?_
      refine kwp_seq ?_
      refine kwp_seq ?_
      refine kwp_region ?_
      refine kops_d rfl rfl (opv_move rfl rfl) ?_
      refine kops_d rfl rfl (opv_move rfl rfl) ?_
      refine kops_d rfl rfl (opv_neb rfl rfl rfl Try.underlying4) ?_
      refine kops_nil ?_
      refine kn_then ?_
      refine kwp_cond rfl (fun hc6 => ?_) (fun hc6 => ?_)
      ·
        first | have hc6n := kb_nt hc6 | have hc6n := kb_nf hc6 | have hc6n := hc6
        first | have hc6m := of_decide_eq_true hc6n | have hc6m := of_decide_eq_false hc6n | have hc6m := kb_eq hc6n | have hc6m := kb_ne hc6n | have hc6m := kb_bne hc6n | have hc6m := kb_nbne hc6n | have hc6m := isIx_t hc6n | have hc6m := isIx_f hc6n | have hc6m := inR_t hc6n | have hc6m := inR_f hc6n | have hc6m := dec_tt hc6n | have hc6m := dec_ff hc6n | have hc6m := hc6n
        try simp only [List.get_eq_getElem] at hc6n
        try simp only [List.get_eq_getElem] at hc6m
        try (exfalso; simp_all; done; done)
        all_goals
          refine kwp_seq ?_
          refine kwp_region ?_
          refine kops_d rfl rfl (opv_assign rfl rfl) ?_
          refine kops_nil ?_
          refine kn_then ?_
          refine kwp_ret ?_
          refine kr_then ?_
          refine kret1 [] rfl rfl ?_ (by (repeat (first | exact Sub.refl _ | exact Sub.nil _ | refine Sub.chunk (by repeat (first | exact Pick.here | apply Pick.there)) (by first | rfl | (simp; done) | (congr 1; omega)) ?_)))
          exact ⟨rfl, rfl⟩
      ·
        first | have hc6n := kb_nt hc6 | have hc6n := kb_nf hc6 | have hc6n := hc6
        first | have hc6m := of_decide_eq_true hc6n | have hc6m := of_decide_eq_false hc6n | have hc6m := kb_eq hc6n | have hc6m := kb_ne hc6n | have hc6m := kb_bne hc6n | have hc6m := kb_nbne hc6n | have hc6m := isIx_t hc6n | have hc6m := isIx_f hc6n | have hc6m := inR_t hc6n | have hc6m := inR_f hc6n | have hc6m := dec_tt hc6n | have hc6m := dec_ff hc6n | have hc6m := hc6n
        try simp only [List.get_eq_getElem] at hc6n
        try simp only [List.get_eq_getElem] at hc6m
        try (exfalso; simp_all; done; done)
        all_goals
          refine kwp_skip ?_
          refine kn_then ?_
          refine kwp_seq ?_
          refine kwp_seq ?_
          refine kwp_draw [(0, true), (1, true), (2, false), (3, false), (4, true)] [] _ drawMixed (by kernel_rfl) (fun _ _ _ h => h) (Sub.refl _) ?_
          refine ks_d rfl rfl rfl (opv_load_box rfl rfl Try.isAgg35 Try.sizeOf35 (by repeat (first | exact List.Mem.head _ | apply List.Mem.tail))) ?_
          refine ks_d rfl rfl rfl (opv_load_box rfl rfl Try.isAgg30 Try.sizeOf30 (by repeat (first | exact List.Mem.head _ | apply List.Mem.tail))) ?_
          refine ks_k rfl rfl (opk_call rfl Try.call20 rfl (c_laws_toMine _ _ _ _ _ (by omega)) ((perm_nil _)) (Views.cons (by repeat (first | exact List.Mem.head _ | apply List.Mem.tail)) (View.refl _) ((Views.nil _))) ?_)
          rintro _ _ ⟨a24, c24, rfl, rfl⟩
          refine ⟨.inl (by (repeat (first | exact Sub.refl _ | exact Sub.nil _ | refine Sub.chunk (by repeat (first | exact Pick.here | apply Pick.there)) (by first | rfl | (simp; done) | (congr 1; omega)) ?_))), ?_⟩
          refine ks_k rfl rfl (opk_call rfl Try.call22 rfl (c_laws_eqMine _ _ _ _ _ _ _ _ _ _ ⟨by omega, by omega⟩) ((perm_nil _)) (Views.cons (by repeat (first | exact List.Mem.head _ | apply List.Mem.tail)) (View.refl _) (Views.cons (by repeat (first | exact List.Mem.head _ | apply List.Mem.tail)) (View.refl _) ((Views.nil _)))) ?_)
          rintro _ _ ⟨rfl, rfl⟩
          refine ⟨.inl (by (repeat (first | exact Sub.refl _ | exact Sub.nil _ | refine Sub.chunk (by repeat (first | exact Pick.here | apply Pick.there)) (by first | rfl | (simp; done) | (congr 1; omega)) ?_))), ?_⟩
          refine ks_d rfl rfl rfl (opv_not rfl rfl) ?_
          refine ks_nil ?_
          refine kn_then ?_
          refine kwp_cond rfl (fun hc9 => ?_) (fun hc9 => ?_)
          ·
            first | have hc9n := kb_nt hc9 | have hc9n := kb_nf hc9 | have hc9n := hc9
            first | have hc9m := of_decide_eq_true hc9n | have hc9m := of_decide_eq_false hc9n | have hc9m := kb_eq hc9n | have hc9m := kb_ne hc9n | have hc9m := kb_bne hc9n | have hc9m := kb_nbne hc9n | have hc9m := isIx_t hc9n | have hc9m := isIx_f hc9n | have hc9m := inR_t hc9n | have hc9m := inR_f hc9n | have hc9m := dec_tt hc9n | have hc9m := dec_ff hc9n | have hc9m := hc9n
            try simp only [List.get_eq_getElem] at hc9n
            try simp only [List.get_eq_getElem] at hc9m
            try (exfalso; simp_all; done; done)
            all_goals
              refine kwp_seq ?_
              refine kwp_region ?_
              refine kops_d rfl rfl (opv_assign rfl rfl) ?_
              refine kops_nil ?_
              refine kn_then ?_
              refine kwp_ret ?_
              refine kr_then ?_
              refine kret1 [] rfl rfl ?_ (by (repeat (first | exact Sub.refl _ | exact Sub.nil _ | refine Sub.chunk (by repeat (first | exact Pick.here | apply Pick.there)) (by first | rfl | (simp; done) | (congr 1; omega)) ?_)))
              exact ⟨rfl, rfl⟩
          ·
            first | have hc9n := kb_nt hc9 | have hc9n := kb_nf hc9 | have hc9n := hc9
            first | have hc9m := of_decide_eq_true hc9n | have hc9m := of_decide_eq_false hc9n | have hc9m := kb_eq hc9n | have hc9m := kb_ne hc9n | have hc9m := kb_bne hc9n | have hc9m := kb_nbne hc9n | have hc9m := isIx_t hc9n | have hc9m := isIx_f hc9n | have hc9m := inR_t hc9n | have hc9m := inR_f hc9n | have hc9m := dec_tt hc9n | have hc9m := dec_ff hc9n | have hc9m := hc9n
            try simp only [List.get_eq_getElem] at hc9n
            try simp only [List.get_eq_getElem] at hc9m
            try (exfalso; simp_all; done; done)
            all_goals
              refine kwp_skip ?_
              refine kn_then ?_
              refine kwp_seq ?_
              refine kwp_region ?_
              refine kops_d rfl rfl (opv_assign rfl rfl) ?_
              refine kops_nil ?_
              refine kn_then ?_
              refine kwp_ret ?_
              refine kret1 [] rfl rfl ?_ (by (repeat (first | exact Sub.refl _ | exact Sub.nil _ | refine Sub.chunk (by repeat (first | exact Pick.here | apply Pick.there)) (by first | rfl | (simp; done) | (congr 1; omega)) ?_)))
              exact ⟨rfl, rfl⟩

end Go.Proofs.Ytfgialdcilldiaa
