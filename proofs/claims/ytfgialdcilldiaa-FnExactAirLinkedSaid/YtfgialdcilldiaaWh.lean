/- The walks of some functions, each by its contract; conditions: those that each contract names. -/
import Derived.Test.YtfgialdcilldiaaWg
namespace Go.Proofs.Ytfgialdcilldiaa
open Go
set_option linter.unusedVariables false
set_option linter.unusedSimpArgs false


set_option maxRecDepth 20000 in
theorem c_slices_Clone_impl_Airway_impl_Airway (a : Option Addr) (n c : Nat) (l : List Airway) (hb : n ≤ 1048576) :
    Triple Try.prog 67 [.slice a n c] [⟨.slice a n c, 3, l.map encAirway⟩] [] (fun r ch => ∃ a' c', r = .slice a' n c' ∧ ch = [⟨.slice a' n c', 3, l.map encAirway⟩]) := by
  refine triple_start 8 Try.func67 Try.ntmps67 rfl rfl (fun w0 => ?_)
  refine kwp_len (List.Mem.head _) (fun hn => ?_)
  simp only [List.length_map] at hn
  subst hn
  refine kwp_none (List.Mem.head _) (fun hnone => ?_)
  refine kwp_nil 3 (by decide) ?_
  refine kwp_seq ?_
  refine kwp_region ?_
  refine kops_d rfl rfl (opv_assign rfl rfl) ?_
  refine kops_nil ?_
  refine kn_then ?_
  refine kwp_seq ?_
  refine kwp_seq ?_
  refine kwp_region ?_
  refine kops_d rfl rfl (opv_move rfl rfl) ?_
  refine kops_d rfl rfl (opv_eql_nil rfl rfl rfl Try.runUnderlying33) ?_
  refine kops_nil ?_
  refine kn_then ?_
  refine kwp_cond rfl (fun hc2 => ?_) (fun hc2 => ?_)
  ·
    first | have hc2n := kb_nt hc2 | have hc2n := kb_nf hc2 | have hc2n := hc2
    first | have hc2m := of_decide_eq_true hc2n | have hc2m := of_decide_eq_false hc2n | have hc2m := kb_eq hc2n | have hc2m := kb_ne hc2n | have hc2m := kb_bne hc2n | have hc2m := kb_nbne hc2n | have hc2m := isIx_t hc2n | have hc2m := isIx_f hc2n | have hc2m := inR_t hc2n | have hc2m := inR_f hc2n | have hc2m := dec_tt hc2n | have hc2m := dec_ff hc2n | have hc2m := hc2n
    try simp only [List.get_eq_getElem] at hc2n
    try simp only [List.get_eq_getElem] at hc2m
    refine kwp_seq ?_
    refine kwp_region ?_
    refine kops_d rfl rfl (opv_assign rfl rfl) ?_
    refine kops_nil ?_
    refine kn_then ?_
    refine kwp_ret ?_
    refine kr_then ?_
    first
      | (refine kret1 [⟨.slice none 0 0, 3, []⟩] rfl rfl ?_ (by (repeat (first | exact Sub.refl _ | exact Sub.nil _ | refine Sub.chunk (by repeat (first | exact Pick.here | apply Pick.there)) (by first | rfl | (simp; done) | (congr 1; omega)) ?_)))
         (have hz := hnone (by cases a <;> simp_all)); (have hl0 : l = [] := List.map_eq_nil_iff.1 hz.2.2); subst hl0; exact ⟨none, 0, rfl, rfl⟩
         done)
      | (refine kret1 [⟨.slice a7 _ c7, 3, l.map encAirway⟩] rfl rfl ?_ (by (repeat (first | exact Sub.refl _ | exact Sub.nil _ | refine Sub.chunk (by repeat (first | exact Pick.here | apply Pick.there)) (by first | rfl | (simp; done) | (congr 1; omega)) ?_)))
         exact ⟨a7, c7, by simp, by simp⟩
         done)
  ·
    first | have hc2n := kb_nt hc2 | have hc2n := kb_nf hc2 | have hc2n := hc2
    first | have hc2m := of_decide_eq_true hc2n | have hc2m := of_decide_eq_false hc2n | have hc2m := kb_eq hc2n | have hc2m := kb_ne hc2n | have hc2m := kb_bne hc2n | have hc2m := kb_nbne hc2n | have hc2m := isIx_t hc2n | have hc2m := isIx_f hc2n | have hc2m := inR_t hc2n | have hc2m := inR_f hc2n | have hc2m := dec_tt hc2n | have hc2m := dec_ff hc2n | have hc2m := hc2n
    try simp only [List.get_eq_getElem] at hc2n
    try simp only [List.get_eq_getElem] at hc2m
    refine kwp_skip ?_
    refine kn_then ?_
    refine kwp_seq ?_
    refine kwp_region ?_
    refine kops_step rfl (opk_buildSlice (vs := []) rfl rfl rfl Try.runUnderlying33 Try.sizeOf77 Try.zeroValue77 rfl (by decide) (by simp [Value.cells]) (by decide) (fun a5 => ?_))
    refine kops_d rfl rfl (opv_move rfl rfl) ?_
    refine kops_step rfl (opk_append rfl rfl rfl Try.underlying33 Try.type77 rfl rfl rfl (by repeat (first | exact List.Mem.head _ | apply List.Mem.tail)) (by first | exact one_aw | exact one_int | exact one_sill | decide | (simp [Value.oneCell']; done) | (intro x hx; simp at hx; rcases hx with rfl | rfl | rfl | rfl | rfl <;> rfl)) (by repeat (first | exact Pick.here | apply Pick.there)) (by first | omega | (simp; omega)) (show _ * 24 ≤ 140737488355328 by first | omega | (simp; omega)) (fun a7 c7 => ?_))
    refine kops_d rfl rfl (opv_assign rfl rfl) ?_
    refine kops_nil ?_
    refine kn_then ?_
    refine kwp_ret ?_
    first
      | (refine kret1 [⟨.slice none 0 0, 3, []⟩] rfl rfl ?_ (by (repeat (first | exact Sub.refl _ | exact Sub.nil _ | refine Sub.chunk (by repeat (first | exact Pick.here | apply Pick.there)) (by first | rfl | (simp; done) | (congr 1; omega)) ?_)))
         (have hz := hnone (by cases a <;> simp_all)); (have hl0 : l = [] := List.map_eq_nil_iff.1 hz.2.2); subst hl0; exact ⟨none, 0, rfl, rfl⟩
         done)
      | (refine kret1 [⟨.slice a7 _ c7, 3, l.map encAirway⟩] rfl rfl ?_ (by (repeat (first | exact Sub.refl _ | exact Sub.nil _ | refine Sub.chunk (by repeat (first | exact Pick.here | apply Pick.there)) (by first | rfl | (simp; done) | (congr 1; omega)) ?_)))
         exact ⟨a7, c7, by simp, by simp⟩
         done)

set_option maxRecDepth 20000 in
theorem c_impl_Widen (p : Int) (a : Option Addr) (n c : Nat) (l : List Airway) (i : Int) (hb : n ≤ 1048576) :
    Triple Try.prog 33 [.agg #[.int .i64 p, .slice a n c], .int .i64 i] [⟨.slice a n c, 3, l.map encAirway⟩] [] (fun r ch => ∃ a' n' c', r = .tuple #[.agg #[.int .i64 (widenP p l i), .slice a' n' c'], .bool (dec (WidenOk p l i))] ∧ n' ≤ 7 ∧ ch = [⟨.slice a' n' c', 3, (widenR p l i).map encAirway⟩]) := by
  refine triple_start 44 Try.func33 Try.ntmps33 rfl rfl (fun w0 => ?_)
  refine kwp_len (List.Mem.head _) (fun hn => ?_)
  simp only [List.length_map] at hn
  subst hn
  refine kwp_nil 3 (by decide) ?_
  refine kwp_seq ?_
  refine kwp_region ?_
  refine kops_step rfl (opk_box' (e := [_, _]) 2 rfl rfl rfl rfl (by decide) (fun p2 => ?_))
  refine kops_step rfl (opk_alloc' (e := [_, _]) 2 rfl Try.zeroValue35 rfl rfl (by decide) (fun p4 => ?_))
  refine kops_d rfl rfl (opv_assign rfl rfl) ?_
  refine kops_nil ?_
  refine kn_then ?_
  refine kwp_seq ?_
  refine kwp_seq ?_
  refine kwp_region ?_
  refine kops_d rfl rfl (opv_load_box rfl rfl Try.isAgg35 Try.sizeOf35 (by repeat (first | exact List.Mem.head _ | apply List.Mem.tail))) ?_
  refine kops_step rfl (opk_call rfl Try.call21 rfl (c_impl_MineValid _ _ _ _ _ (by omega)) ((perm_nil _)) (Views.cons (by repeat (first | exact List.Mem.head _ | apply List.Mem.tail)) (View.refl _) ((Views.nil _))) ?_)
  rintro _ _ ⟨rfl, rfl⟩
  refine kops_d rfl rfl (opv_not rfl rfl) ?_
  refine kops_d rfl rfl (opv_move rfl rfl) ?_
  refine kops_split 10 rfl (fun hb3 => ?_) (fun hb3 => ?_)
  ·
    first | have hb3n := kb_nt hb3 | have hb3n := kb_nf hb3 | have hb3n := hb3
    first | have hb3m := of_decide_eq_true hb3n | have hb3m := of_decide_eq_false hb3n | have hb3m := kb_eq hb3n | have hb3m := kb_ne hb3n | have hb3m := kb_bne hb3n | have hb3m := kb_nbne hb3n | have hb3m := isIx_t hb3n | have hb3m := isIx_f hb3n | have hb3m := inR_t hb3n | have hb3m := inR_f hb3n | have hb3m := dec_tt hb3n | have hb3m := dec_ff hb3n | have hb3m := hb3n
    try simp only [List.get_eq_getElem] at hb3n
    try simp only [List.get_eq_getElem] at hb3m
    try (have hX : MineOk _ _ := hb3m; obtain ⟨hp1, hp5, hl7, haw⟩ := hX)
    try (have hX := haw i.toNat (by omega); obtain ⟨hf0, hf1, ht0, ht1, hft, hw1, hw6⟩ := hX)
    refine kops_skip rfl rfl rfl hb3 ?_
    refine kops_skip rfl rfl rfl hb3 ?_
    refine kops_skip rfl rfl rfl hb3 ?_
    refine kops_skip rfl rfl rfl hb3 ?_
    refine kops_skip rfl rfl rfl hb3 ?_
    refine kops_skip rfl rfl rfl hb3 ?_
    refine kops_d rfl rfl (opv_pick_t rfl rfl rfl hb3) ?_
    refine kops_d rfl rfl (opv_move rfl rfl) ?_
    refine kops_skip rfl rfl rfl rfl ?_
    refine kops_skip rfl rfl rfl rfl ?_
    refine kops_skip rfl rfl rfl rfl ?_
    refine kops_skip rfl rfl rfl rfl ?_
    refine kops_skip rfl rfl rfl rfl ?_
    refine kops_skip rfl rfl rfl rfl ?_
    refine kops_skip rfl rfl rfl rfl ?_
    refine kops_d rfl rfl (opv_pick_t rfl rfl rfl rfl) ?_
    refine kops_nil ?_
    refine kn_then ?_
    refine kwp_cond_t rfl rfl ?_
    refine kwp_seq ?_
    refine kwp_region ?_
    refine kops_d rfl rfl (opv_build1 [] [(.int .i64 0), (.slice none 0 0)] rfl rfl Try.zeroValue35 Try.runUnderlying35 pl_35 rfl) ?_
    refine kops_step rfl (opk_store_box (e' := [_, _]) rfl rfl rfl Try.sizeOf35 rfl (by first | exact one_aw | exact one_int | exact one_sill | decide | (simp [Value.oneCell']; done) | (intro x hx; simp at hx; rcases hx with rfl | rfl | rfl | rfl | rfl <;> rfl)) rfl (by repeat (first | exact Upd.here | apply Upd.there)) ?_)
    refine kops_d rfl rfl (opv_assign rfl rfl) ?_
    refine kops_nil ?_
    refine kn_then ?_
    refine kwp_ret ?_
    refine kr_then ?_
    first
      | (refine kretc1 [⟨.slice none 0 0, 3, []⟩] rfl rfl Try.isAgg35 Try.sizeOf35 (by repeat (first | exact List.Mem.head _ | apply List.Mem.tail)) rfl ?_ (by (refine Sub.chunk (by repeat (first | exact Pick.here | apply Pick.there)) (by first | rfl | exact map_set' rfl) (Sub.nil _)))
         (have hf : ¬ WidenOk p l i := fun h => by first | exact absurd h.ok (by assumption) | (have h2 := h.i0; have h3 := h.i1; have h4 := h.nw; omega)); exact ⟨none, 0, 0, by rw [widenP_f hf, dec_f hf], by omega, by rw [widenR_f hf]; rfl⟩
         done)
      | (refine kretc1 [⟨.slice a32 _ c32, 3, (widenL l i.toNat).map encAirway⟩] rfl rfl Try.isAgg35 Try.sizeOf35 (by repeat (first | exact List.Mem.head _ | apply List.Mem.tail)) rfl ?_ (by (refine Sub.chunk (by repeat (first | exact Pick.here | apply Pick.there)) (by first | rfl | exact map_set' rfl) (Sub.nil _)))
         (have ht : WidenOk p l i := ⟨⟨hp1, hp5, hl7, haw⟩, by omega, by omega, by omega⟩); exact ⟨_, _, _, (by rw [widenP_t ht, dec_t ht] <;> rfl), by omega, (by rw [widenR_t ht] <;> rfl)⟩
         done)
  ·
    first | have hb3n := kb_nt hb3 | have hb3n := kb_nf hb3 | have hb3n := hb3
    first | have hb3m := of_decide_eq_true hb3n | have hb3m := of_decide_eq_false hb3n | have hb3m := kb_eq hb3n | have hb3m := kb_ne hb3n | have hb3m := kb_bne hb3n | have hb3m := kb_nbne hb3n | have hb3m := isIx_t hb3n | have hb3m := isIx_f hb3n | have hb3m := inR_t hb3n | have hb3m := inR_f hb3n | have hb3m := dec_tt hb3n | have hb3m := dec_ff hb3n | have hb3m := hb3n
    try simp only [List.get_eq_getElem] at hb3n
    try simp only [List.get_eq_getElem] at hb3m
    try (have hX : MineOk _ _ := hb3m; obtain ⟨hp1, hp5, hl7, haw⟩ := hX)
    try (have hX := haw i.toNat (by omega); obtain ⟨hf0, hf1, ht0, ht1, hft, hw1, hw6⟩ := hX)
    refine kops_gd rfl rfl rfl hb3 rfl (opv_move rfl rfl) ?_
    refine kops_gd rfl rfl rfl hb3 rfl (opv_fab rfl rfl fa_35_1 (by repeat (first | exact List.Mem.head _ | apply List.Mem.tail))) ?_
    refine kops_gd rfl rfl rfl hb3 rfl (opv_load rfl rfl Try.isAgg33 (by repeat (first | exact List.Mem.head _ | apply List.Mem.tail)) (by first | rfl | exact gx_map (by omega) | exact fill_get (by omega) | (simp; done)) rfl) ?_
    refine kops_gd rfl rfl rfl hb3 rfl (opv_len rfl rfl rfl Try.runUnderlying33) ?_
    refine kops_gk rfl rfl rfl hb3 (opk_call rfl Try.call60 rfl (c_impl_isIndex _ _) ((perm_nil _)) ((Views.nil _)) ?_)
    rintro _ _ ⟨rfl, rfl⟩
    refine kops_gd rfl rfl rfl hb3 rfl (opv_not rfl rfl) ?_
    refine kops_d rfl rfl (opv_pick_f rfl rfl rfl hb3) ?_
    refine kops_d rfl rfl (opv_move rfl rfl) ?_
    refine kops_split 18 rfl (fun hb6 => ?_) (fun hb6 => ?_)
    ·
      first | have hb6n := kb_nt hb6 | have hb6n := kb_nf hb6 | have hb6n := hb6
      first | have hb6m := of_decide_eq_true hb6n | have hb6m := of_decide_eq_false hb6n | have hb6m := kb_eq hb6n | have hb6m := kb_ne hb6n | have hb6m := kb_bne hb6n | have hb6m := kb_nbne hb6n | have hb6m := isIx_t hb6n | have hb6m := isIx_f hb6n | have hb6m := inR_t hb6n | have hb6m := inR_f hb6n | have hb6m := dec_tt hb6n | have hb6m := dec_ff hb6n | have hb6m := hb6n
      try simp only [List.get_eq_getElem] at hb6n
      try simp only [List.get_eq_getElem] at hb6m
      try (have hX : MineOk _ _ := hb6m; obtain ⟨hp1, hp5, hl7, haw⟩ := hX)
      try (have hX := haw i.toNat (by omega); obtain ⟨hf0, hf1, ht0, ht1, hft, hw1, hw6⟩ := hX)
      refine kops_skip rfl rfl rfl hb6 ?_
      refine kops_skip rfl rfl rfl hb6 ?_
      refine kops_skip rfl rfl rfl hb6 ?_
      refine kops_skip rfl rfl rfl hb6 ?_
      refine kops_skip rfl rfl rfl hb6 ?_
      refine kops_skip rfl rfl rfl hb6 ?_
      refine kops_skip rfl rfl rfl hb6 ?_
      refine kops_d rfl rfl (opv_pick_t rfl rfl rfl hb6) ?_
      refine kops_nil ?_
      refine kn_then ?_
      refine kwp_cond_t rfl rfl ?_
      refine kwp_seq ?_
      refine kwp_region ?_
      refine kops_d rfl rfl (opv_build1 [] [(.int .i64 0), (.slice none 0 0)] rfl rfl Try.zeroValue35 Try.runUnderlying35 pl_35 rfl) ?_
      refine kops_step rfl (opk_store_box (e' := [_, _]) rfl rfl rfl Try.sizeOf35 rfl (by first | exact one_aw | exact one_int | exact one_sill | decide | (simp [Value.oneCell']; done) | (intro x hx; simp at hx; rcases hx with rfl | rfl | rfl | rfl | rfl <;> rfl)) rfl (by repeat (first | exact Upd.here | apply Upd.there)) ?_)
      refine kops_d rfl rfl (opv_assign rfl rfl) ?_
      refine kops_nil ?_
      refine kn_then ?_
      refine kwp_ret ?_
      refine kr_then ?_
      first
        | (refine kretc1 [⟨.slice none 0 0, 3, []⟩] rfl rfl Try.isAgg35 Try.sizeOf35 (by repeat (first | exact List.Mem.head _ | apply List.Mem.tail)) rfl ?_ (by (refine Sub.chunk (by repeat (first | exact Pick.here | apply Pick.there)) (by first | rfl | exact map_set' rfl) (Sub.nil _)))
           (have hf : ¬ WidenOk p l i := fun h => by first | exact absurd h.ok (by assumption) | (have h2 := h.i0; have h3 := h.i1; have h4 := h.nw; omega)); exact ⟨none, 0, 0, by rw [widenP_f hf, dec_f hf], by omega, by rw [widenR_f hf]; rfl⟩
           done)
        | (refine kretc1 [⟨.slice a32 _ c32, 3, (widenL l i.toNat).map encAirway⟩] rfl rfl Try.isAgg35 Try.sizeOf35 (by repeat (first | exact List.Mem.head _ | apply List.Mem.tail)) rfl ?_ (by (refine Sub.chunk (by repeat (first | exact Pick.here | apply Pick.there)) (by first | rfl | exact map_set' rfl) (Sub.nil _)))
           (have ht : WidenOk p l i := ⟨⟨hp1, hp5, hl7, haw⟩, by omega, by omega, by omega⟩); exact ⟨_, _, _, (by rw [widenP_t ht, dec_t ht] <;> rfl), by omega, (by rw [widenR_t ht] <;> rfl)⟩
           done)
    ·
      first | have hb6n := kb_nt hb6 | have hb6n := kb_nf hb6 | have hb6n := hb6
      first | have hb6m := of_decide_eq_true hb6n | have hb6m := of_decide_eq_false hb6n | have hb6m := kb_eq hb6n | have hb6m := kb_ne hb6n | have hb6m := kb_bne hb6n | have hb6m := kb_nbne hb6n | have hb6m := isIx_t hb6n | have hb6m := isIx_f hb6n | have hb6m := inR_t hb6n | have hb6m := inR_f hb6n | have hb6m := dec_tt hb6n | have hb6m := dec_ff hb6n | have hb6m := hb6n
      try simp only [List.get_eq_getElem] at hb6n
      try simp only [List.get_eq_getElem] at hb6m
      try (have hX : MineOk _ _ := hb6m; obtain ⟨hp1, hp5, hl7, haw⟩ := hX)
      try (have hX := haw i.toNat (by omega); obtain ⟨hf0, hf1, ht0, ht1, hft, hw1, hw6⟩ := hX)
      refine kops_gd rfl rfl rfl hb6 rfl (opv_fab rfl rfl fa_35_1 (by repeat (first | exact List.Mem.head _ | apply List.Mem.tail))) ?_
      refine kops_gd rfl rfl rfl hb6 rfl (opv_load rfl rfl Try.isAgg33 (by repeat (first | exact List.Mem.head _ | apply List.Mem.tail)) (by first | rfl | exact gx_map (by omega) | exact fill_get (by omega) | (simp; done)) rfl) ?_
      refine kops_gd rfl rfl rfl hb6 rfl (opv_move rfl rfl) ?_
      refine kops_gd rfl rfl rfl hb6 rfl (opv_ia rfl rfl rfl Try.runUnderlying33 Try.sizeOf77 (by repeat (first | exact List.Mem.head _ | apply List.Mem.tail)) (by first | rfl | exact (Int.toNat_of_nonneg (by omega)).symm) (by first | omega | (simp only [List.length_map]; omega) | (rw [fill_len (by omega)]; omega) | (simp; omega) | (simp; done))) ?_
      refine kops_gd rfl rfl rfl hb6 rfl (opv_fa rfl rfl fa_77_2 (by repeat (first | exact List.Mem.head _ | apply List.Mem.tail)) (by first | omega | (simp only [List.length_map]; omega) | (rw [fill_len (by omega)]; omega) | (simp; omega) | (simp; done))) ?_
      refine kops_gd rfl rfl rfl hb6 rfl (opv_load rfl rfl Try.isAgg3 (by repeat (first | exact List.Mem.head _ | apply List.Mem.tail)) (by first | rfl | exact gx_map (by omega) | exact fill_get (by omega) | (simp; done)) rfl) ?_
      refine kops_gd rfl rfl rfl hb6 rfl (opv_cmp rfl rfl rfl rfl) ?_
      refine kops_d rfl rfl (opv_pick_f rfl rfl rfl hb6) ?_
      refine kops_nil ?_
      refine kn_then ?_
      refine kwp_cond rfl (fun hc8 => ?_) (fun hc8 => ?_)
      ·
        first | have hc8n := kb_nt hc8 | have hc8n := kb_nf hc8 | have hc8n := hc8
        first | have hc8m := of_decide_eq_true hc8n | have hc8m := of_decide_eq_false hc8n | have hc8m := kb_eq hc8n | have hc8m := kb_ne hc8n | have hc8m := kb_bne hc8n | have hc8m := kb_nbne hc8n | have hc8m := isIx_t hc8n | have hc8m := isIx_f hc8n | have hc8m := inR_t hc8n | have hc8m := inR_f hc8n | have hc8m := dec_tt hc8n | have hc8m := dec_ff hc8n | have hc8m := hc8n
        try simp only [List.get_eq_getElem] at hc8n
        try simp only [List.get_eq_getElem] at hc8m
        try (have hX : MineOk _ _ := hc8m; obtain ⟨hp1, hp5, hl7, haw⟩ := hX)
        try (have hX := haw i.toNat (by omega); obtain ⟨hf0, hf1, ht0, ht1, hft, hw1, hw6⟩ := hX)
        refine kwp_seq ?_
        refine kwp_region ?_
        refine kops_d rfl rfl (opv_build1 [] [(.int .i64 0), (.slice none 0 0)] rfl rfl Try.zeroValue35 Try.runUnderlying35 pl_35 rfl) ?_
        refine kops_step rfl (opk_store_box (e' := [_, _]) rfl rfl rfl Try.sizeOf35 rfl (by first | exact one_aw | exact one_int | exact one_sill | decide | (simp [Value.oneCell']; done) | (intro x hx; simp at hx; rcases hx with rfl | rfl | rfl | rfl | rfl <;> rfl)) rfl (by repeat (first | exact Upd.here | apply Upd.there)) ?_)
        refine kops_d rfl rfl (opv_assign rfl rfl) ?_
        refine kops_nil ?_
        refine kn_then ?_
        refine kwp_ret ?_
        refine kr_then ?_
        first
          | (refine kretc1 [⟨.slice none 0 0, 3, []⟩] rfl rfl Try.isAgg35 Try.sizeOf35 (by repeat (first | exact List.Mem.head _ | apply List.Mem.tail)) rfl ?_ (by (refine Sub.chunk (by repeat (first | exact Pick.here | apply Pick.there)) (by first | rfl | exact map_set' rfl) (Sub.nil _)))
             (have hf : ¬ WidenOk p l i := fun h => by first | exact absurd h.ok (by assumption) | (have h2 := h.i0; have h3 := h.i1; have h4 := h.nw; omega)); exact ⟨none, 0, 0, by rw [widenP_f hf, dec_f hf], by omega, by rw [widenR_f hf]; rfl⟩
             done)
          | (refine kretc1 [⟨.slice a32 _ c32, 3, (widenL l i.toNat).map encAirway⟩] rfl rfl Try.isAgg35 Try.sizeOf35 (by repeat (first | exact List.Mem.head _ | apply List.Mem.tail)) rfl ?_ (by (refine Sub.chunk (by repeat (first | exact Pick.here | apply Pick.there)) (by first | rfl | exact map_set' rfl) (Sub.nil _)))
             (have ht : WidenOk p l i := ⟨⟨hp1, hp5, hl7, haw⟩, by omega, by omega, by omega⟩); exact ⟨_, _, _, (by rw [widenP_t ht, dec_t ht] <;> rfl), by omega, (by rw [widenR_t ht] <;> rfl)⟩
             done)
      ·
        first | have hc8n := kb_nt hc8 | have hc8n := kb_nf hc8 | have hc8n := hc8
        first | have hc8m := of_decide_eq_true hc8n | have hc8m := of_decide_eq_false hc8n | have hc8m := kb_eq hc8n | have hc8m := kb_ne hc8n | have hc8m := kb_bne hc8n | have hc8m := kb_nbne hc8n | have hc8m := isIx_t hc8n | have hc8m := isIx_f hc8n | have hc8m := inR_t hc8n | have hc8m := inR_f hc8n | have hc8m := dec_tt hc8n | have hc8m := dec_ff hc8n | have hc8m := hc8n
        try simp only [List.get_eq_getElem] at hc8n
        try simp only [List.get_eq_getElem] at hc8m
        try (have hX : MineOk _ _ := hc8m; obtain ⟨hp1, hp5, hl7, haw⟩ := hX)
        try (have hX := haw i.toNat (by omega); obtain ⟨hf0, hf1, ht0, ht1, hft, hw1, hw6⟩ := hX)
        refine kwp_skip ?_
        refine kn_then ?_
        refine kwp_seq ?_
        refine kwp_tree (.quiet 0 (.quiet 1 (.quiet 2 (.quiet 3 (.two 4 (.quiet 5 (.one 6 (.one 7 .stop))) 6 (.one 4 (.quiet 5 (.one 7 .stop)))))))) [7] _ drawMixed (by kernel_rfl) (fun _ _ _ h => h) (Sub.refl _) ?_
        refine kt_d rfl rfl rfl (opv_fab rfl rfl fa_35_0 (by repeat (first | exact List.Mem.head _ | apply List.Mem.tail))) ?_
        refine kt_d rfl rfl rfl (opv_load rfl rfl Try.isAgg3 (by repeat (first | exact List.Mem.head _ | apply List.Mem.tail)) (by first | rfl | exact gx_map (by omega) | exact fill_get (by omega) | (simp; done)) rfl) ?_
        refine kt_d rfl rfl rfl (opv_fab rfl rfl fa_35_1 (by repeat (first | exact List.Mem.head _ | apply List.Mem.tail))) ?_
        refine kt_d rfl rfl rfl (opv_load rfl rfl Try.isAgg33 (by repeat (first | exact List.Mem.head _ | apply List.Mem.tail)) (by first | rfl | exact gx_map (by omega) | exact fill_get (by omega) | (simp; done)) rfl) ?_
        refine kt_two ?_ ?_
        ·
          refine kl_k rfl rfl (opk_call rfl Try.call67 rfl (c_slices_Clone_impl_Airway_impl_Airway _ _ _ _ (by omega)) ((perm_nil _)) (Views.cons (by repeat (first | exact List.Mem.head _ | apply List.Mem.tail)) (View.refl _) ((Views.nil _))) ?_)
          rintro _ _ ⟨a32, c32, rfl, rfl⟩
          refine ⟨.inl (by (repeat (first | exact Sub.refl _ | exact Sub.nil _ | refine Sub.chunk (by repeat (first | exact Pick.here | apply Pick.there)) (by first | rfl | (simp; done) | (congr 1; omega)) ?_))), ?_⟩
          refine kt_d rfl rfl rfl (opv_build1 [(0, _), (1, _)] [_, _] rfl rfl Try.zeroValue35 Try.runUnderlying35 pl_35 rfl) ?_
          refine kt_one ?_
          refine kl_k rfl rfl (opk_alloc' (e := [_, _]) 2 rfl Try.zeroValue35 rfl rfl (by decide) (fun p6 => ?_))
          refine ⟨.inl (by (repeat (first | exact Sub.refl _ | exact Sub.nil _ | refine Sub.chunk (by repeat (first | exact Pick.here | apply Pick.there)) (by first | rfl | (simp; done) | (congr 1; omega)) ?_))), ?_⟩
          refine kt_one ?_
          refine kl_k rfl rfl (opk_store_box (e' := [_, _]) rfl rfl rfl Try.sizeOf35 rfl (by first | exact one_aw | exact one_int | exact one_sill | decide | (simp [Value.oneCell']; done) | (intro x hx; simp at hx; rcases hx with rfl | rfl | rfl | rfl | rfl <;> rfl)) rfl (by repeat (first | exact Upd.here | apply Upd.there)) ?_)
          refine ⟨.inr ⟨by decide, rfl⟩, ?_⟩
          refine kt_nil ?_
          refine kn_then ?_
          refine kwp_seq ?_
          refine kwp_region ?_
          refine kops_d rfl rfl (opv_fab rfl rfl fa_35_1 (by repeat (first | exact List.Mem.head _ | apply List.Mem.tail))) ?_
          refine kops_d rfl rfl (opv_load rfl rfl Try.isAgg33 (by repeat (first | exact List.Mem.head _ | apply List.Mem.tail)) (by first | rfl | exact gx_map (by omega) | exact fill_get (by omega) | (simp; done)) rfl) ?_
          refine kops_d rfl rfl (opv_move rfl rfl) ?_
          refine kops_d rfl rfl (opv_ia rfl rfl rfl Try.runUnderlying33 Try.sizeOf77 (by repeat (first | exact List.Mem.head _ | apply List.Mem.tail)) (by first | rfl | exact (Int.toNat_of_nonneg (by omega)).symm) (by first | omega | (simp only [List.length_map]; omega) | (rw [fill_len (by omega)]; omega) | (simp; omega) | (simp; done))) ?_
          refine kops_d rfl rfl (opv_fa rfl rfl fa_77_2 (by repeat (first | exact List.Mem.head _ | apply List.Mem.tail)) (by first | omega | (simp only [List.length_map]; omega) | (rw [fill_len (by omega)]; omega) | (simp; omega) | (simp; done))) ?_
          refine kops_d rfl rfl (opv_load rfl rfl Try.isAgg3 (by repeat (first | exact List.Mem.head _ | apply List.Mem.tail)) (by first | rfl | exact gx_map (by omega) | exact fill_get (by omega) | (simp; done)) rfl) ?_
          refine kops_d rfl rfl (by first | exact opv_add rfl rfl rfl ⟨by omega, by omega⟩ | exact opv_ari rfl rfl rfl rfl) ?_
          refine kops_d rfl rfl (opv_ia rfl rfl rfl Try.runUnderlying33 Try.sizeOf77 (by repeat (first | exact List.Mem.head _ | apply List.Mem.tail)) (by first | rfl | exact (Int.toNat_of_nonneg (by omega)).symm) (by first | omega | (simp only [List.length_map]; omega) | (rw [fill_len (by omega)]; omega) | (simp; omega) | (simp; done))) ?_
          refine kops_d rfl rfl (opv_fa rfl rfl fa_77_2 (by repeat (first | exact List.Mem.head _ | apply List.Mem.tail)) (by first | omega | (simp only [List.length_map]; omega) | (rw [fill_len (by omega)]; omega) | (simp; omega) | (simp; done))) ?_
          refine kops_step rfl (opk_store rfl rfl rfl Try.sizeOf3 rfl (by repeat (first | exact Upd.here | apply Upd.there)) (by first | rfl | exact gx_map (by omega) | exact fill_get (by omega) | (simp; done)) (by decide) ?_)
          refine kops_nil ?_
          refine kn_then ?_
          refine kwp_seq ?_
          refine kwp_region ?_
          refine kops_d rfl rfl (opv_load_box rfl rfl Try.isAgg35 Try.sizeOf35 (by repeat (first | exact List.Mem.head _ | apply List.Mem.tail))) ?_
          refine kops_step rfl (opk_store_box (e' := [_, _]) rfl rfl rfl Try.sizeOf35 rfl (by first | exact one_aw | exact one_int | exact one_sill | decide | (simp [Value.oneCell']; done) | (intro x hx; simp at hx; rcases hx with rfl | rfl | rfl | rfl | rfl <;> rfl)) rfl (by repeat (first | exact Upd.here | apply Upd.there)) ?_)
          refine kops_d rfl rfl (opv_assign rfl rfl) ?_
          refine kops_nil ?_
          refine kn_then ?_
          refine kwp_ret ?_
          first
            | (refine kretc1 [⟨.slice none 0 0, 3, []⟩] rfl rfl Try.isAgg35 Try.sizeOf35 (by repeat (first | exact List.Mem.head _ | apply List.Mem.tail)) rfl ?_ (by (refine Sub.chunk (by repeat (first | exact Pick.here | apply Pick.there)) (by first | rfl | exact map_set' rfl) (Sub.nil _)))
               (have hf : ¬ WidenOk p l i := fun h => by first | exact absurd h.ok (by assumption) | (have h2 := h.i0; have h3 := h.i1; have h4 := h.nw; omega)); exact ⟨none, 0, 0, by rw [widenP_f hf, dec_f hf], by omega, by rw [widenR_f hf]; rfl⟩
               done)
            | (refine kretc1 [⟨.slice a32 _ c32, 3, (widenL l i.toNat).map encAirway⟩] rfl rfl Try.isAgg35 Try.sizeOf35 (by repeat (first | exact List.Mem.head _ | apply List.Mem.tail)) rfl ?_ (by (refine Sub.chunk (by repeat (first | exact Pick.here | apply Pick.there)) (by first | rfl | exact map_set' rfl) (Sub.nil _)))
               (have ht : WidenOk p l i := ⟨⟨hp1, hp5, hl7, haw⟩, by omega, by omega, by omega⟩); exact ⟨_, _, _, (by rw [widenP_t ht, dec_t ht] <;> rfl), by omega, (by rw [widenR_t ht] <;> rfl)⟩
               done)
        ·
          refine kl_k rfl rfl (opk_alloc' (e := [_, _]) 2 rfl Try.zeroValue35 rfl rfl (by decide) (fun p6 => ?_))
          refine ⟨.inl (by (repeat (first | exact Sub.refl _ | exact Sub.nil _ | refine Sub.chunk (by repeat (first | exact Pick.here | apply Pick.there)) (by first | rfl | (simp; done) | (congr 1; omega)) ?_))), ?_⟩
          refine kt_one ?_
          refine kl_k rfl rfl (opk_call rfl Try.call67 rfl (c_slices_Clone_impl_Airway_impl_Airway _ _ _ _ (by omega)) ((perm_nil _)) (Views.cons (by repeat (first | exact List.Mem.head _ | apply List.Mem.tail)) (View.refl _) ((Views.nil _))) ?_)
          rintro _ _ ⟨a32, c32, rfl, rfl⟩
          refine ⟨.inl (by (repeat (first | exact Sub.refl _ | exact Sub.nil _ | refine Sub.chunk (by repeat (first | exact Pick.here | apply Pick.there)) (by first | rfl | (simp; done) | (congr 1; omega)) ?_))), ?_⟩
          refine kt_d rfl rfl rfl (opv_build1 [(0, _), (1, _)] [_, _] rfl rfl Try.zeroValue35 Try.runUnderlying35 pl_35 rfl) ?_
          refine kt_one ?_
          refine kl_k rfl rfl (opk_store_box (e' := [_, _]) rfl rfl rfl Try.sizeOf35 rfl (by first | exact one_aw | exact one_int | exact one_sill | decide | (simp [Value.oneCell']; done) | (intro x hx; simp at hx; rcases hx with rfl | rfl | rfl | rfl | rfl <;> rfl)) rfl (by repeat (first | exact Upd.here | apply Upd.there)) ?_)
          refine ⟨.inr ⟨by decide, rfl⟩, ?_⟩
          refine kt_nil ?_
          refine kn_then ?_
          refine kwp_seq ?_
          refine kwp_region ?_
          refine kops_d rfl rfl (opv_fab rfl rfl fa_35_1 (by repeat (first | exact List.Mem.head _ | apply List.Mem.tail))) ?_
          refine kops_d rfl rfl (opv_load rfl rfl Try.isAgg33 (by repeat (first | exact List.Mem.head _ | apply List.Mem.tail)) (by first | rfl | exact gx_map (by omega) | exact fill_get (by omega) | (simp; done)) rfl) ?_
          refine kops_d rfl rfl (opv_move rfl rfl) ?_
          refine kops_d rfl rfl (opv_ia rfl rfl rfl Try.runUnderlying33 Try.sizeOf77 (by repeat (first | exact List.Mem.head _ | apply List.Mem.tail)) (by first | rfl | exact (Int.toNat_of_nonneg (by omega)).symm) (by first | omega | (simp only [List.length_map]; omega) | (rw [fill_len (by omega)]; omega) | (simp; omega) | (simp; done))) ?_
          refine kops_d rfl rfl (opv_fa rfl rfl fa_77_2 (by repeat (first | exact List.Mem.head _ | apply List.Mem.tail)) (by first | omega | (simp only [List.length_map]; omega) | (rw [fill_len (by omega)]; omega) | (simp; omega) | (simp; done))) ?_
          refine kops_d rfl rfl (opv_load rfl rfl Try.isAgg3 (by repeat (first | exact List.Mem.head _ | apply List.Mem.tail)) (by first | rfl | exact gx_map (by omega) | exact fill_get (by omega) | (simp; done)) rfl) ?_
          refine kops_d rfl rfl (by first | exact opv_add rfl rfl rfl ⟨by omega, by omega⟩ | exact opv_ari rfl rfl rfl rfl) ?_
          refine kops_d rfl rfl (opv_ia rfl rfl rfl Try.runUnderlying33 Try.sizeOf77 (by repeat (first | exact List.Mem.head _ | apply List.Mem.tail)) (by first | rfl | exact (Int.toNat_of_nonneg (by omega)).symm) (by first | omega | (simp only [List.length_map]; omega) | (rw [fill_len (by omega)]; omega) | (simp; omega) | (simp; done))) ?_
          refine kops_d rfl rfl (opv_fa rfl rfl fa_77_2 (by repeat (first | exact List.Mem.head _ | apply List.Mem.tail)) (by first | omega | (simp only [List.length_map]; omega) | (rw [fill_len (by omega)]; omega) | (simp; omega) | (simp; done))) ?_
          refine kops_step rfl (opk_store rfl rfl rfl Try.sizeOf3 rfl (by repeat (first | exact Upd.here | apply Upd.there)) (by first | rfl | exact gx_map (by omega) | exact fill_get (by omega) | (simp; done)) (by decide) ?_)
          refine kops_nil ?_
          refine kn_then ?_
          refine kwp_seq ?_
          refine kwp_region ?_
          refine kops_d rfl rfl (opv_load_box rfl rfl Try.isAgg35 Try.sizeOf35 (by repeat (first | exact List.Mem.head _ | apply List.Mem.tail))) ?_
          refine kops_step rfl (opk_store_box (e' := [_, _]) rfl rfl rfl Try.sizeOf35 rfl (by first | exact one_aw | exact one_int | exact one_sill | decide | (simp [Value.oneCell']; done) | (intro x hx; simp at hx; rcases hx with rfl | rfl | rfl | rfl | rfl <;> rfl)) rfl (by repeat (first | exact Upd.here | apply Upd.there)) ?_)
          refine kops_d rfl rfl (opv_assign rfl rfl) ?_
          refine kops_nil ?_
          refine kn_then ?_
          refine kwp_ret ?_
          first
            | (refine kretc1 [⟨.slice none 0 0, 3, []⟩] rfl rfl Try.isAgg35 Try.sizeOf35 (by repeat (first | exact List.Mem.head _ | apply List.Mem.tail)) rfl ?_ (by (refine Sub.chunk (by repeat (first | exact Pick.here | apply Pick.there)) (by first | rfl | exact map_set' rfl) (Sub.nil _)))
               (have hf : ¬ WidenOk p l i := fun h => by first | exact absurd h.ok (by assumption) | (have h2 := h.i0; have h3 := h.i1; have h4 := h.nw; omega)); exact ⟨none, 0, 0, by rw [widenP_f hf, dec_f hf], by omega, by rw [widenR_f hf]; rfl⟩
               done)
            | (refine kretc1 [⟨.slice a32 _ c32, 3, (widenL l i.toNat).map encAirway⟩] rfl rfl Try.isAgg35 Try.sizeOf35 (by repeat (first | exact List.Mem.head _ | apply List.Mem.tail)) rfl ?_ (by (refine Sub.chunk (by repeat (first | exact Pick.here | apply Pick.there)) (by first | rfl | exact map_set' rfl) (Sub.nil _)))
               (have ht : WidenOk p l i := ⟨⟨hp1, hp5, hl7, haw⟩, by omega, by omega, by omega⟩); exact ⟨_, _, _, (by rw [widenP_t ht, dec_t ht] <;> rfl), by omega, (by rw [widenR_t ht] <;> rfl)⟩
               done)

set_option maxRecDepth 20000 in
theorem c_spec_Widen (p : Int) (a : Option Addr) (n c : Nat) (l : List Airway) (i : Int) (hb : n ≤ 1048576) :
    Triple Try.prog 32 [.agg #[.int .i64 p, .slice a n c], .int .i64 i] [⟨.slice a n c, 3, l.map encAirway⟩] [] (fun r ch => ∃ a' n' c', r = .tuple #[.agg #[.int .i64 (widenP p l i), .slice a' n' c'], .bool (dec (WidenOk p l i))] ∧ n' ≤ 7 ∧ ch = [⟨.slice a' n' c', 3, (widenR p l i).map encAirway⟩]) := by
  refine triple_start 49 Try.func32 Try.ntmps32 rfl rfl (fun w0 => ?_)
  refine kwp_len (List.Mem.head _) (fun hn => ?_)
  simp only [List.length_map] at hn
  subst hn
  refine kwp_nil 3 (by decide) ?_
  refine kwp_seq ?_
  refine kwp_region ?_
  refine kops_step rfl (opk_box' (e := [_, _]) 2 rfl rfl rfl rfl (by decide) (fun p2 => ?_))
  refine kops_step rfl (opk_alloc' (e := [_, _]) 2 rfl Try.zeroValue35 rfl rfl (by decide) (fun p4 => ?_))
  refine kops_d rfl rfl (opv_assign rfl rfl) ?_
  refine kops_nil ?_
  refine kn_then ?_
  refine kwp_seq ?_
  refine kwp_seq ?_
  refine kwp_region ?_
  refine kops_d rfl rfl (opv_load_box rfl rfl Try.isAgg35 Try.sizeOf35 (by repeat (first | exact List.Mem.head _ | apply List.Mem.tail))) ?_
  refine kops_step rfl (opk_call rfl Try.call19 rfl (c_spec_MineValid _ _ _ _ _ (by omega)) ((perm_nil _)) (Views.cons (by repeat (first | exact List.Mem.head _ | apply List.Mem.tail)) (View.refl _) ((Views.nil _))) ?_)
  rintro _ _ ⟨rfl, rfl⟩
  refine kops_d rfl rfl (opv_not rfl rfl) ?_
  refine kops_d rfl rfl (opv_move rfl rfl) ?_
  refine kops_split 10 rfl (fun hb3 => ?_) (fun hb3 => ?_)
  ·
    first | have hb3n := kb_nt hb3 | have hb3n := kb_nf hb3 | have hb3n := hb3
    first | have hb3m := of_decide_eq_true hb3n | have hb3m := of_decide_eq_false hb3n | have hb3m := kb_eq hb3n | have hb3m := kb_ne hb3n | have hb3m := kb_bne hb3n | have hb3m := kb_nbne hb3n | have hb3m := isIx_t hb3n | have hb3m := isIx_f hb3n | have hb3m := inR_t hb3n | have hb3m := inR_f hb3n | have hb3m := dec_tt hb3n | have hb3m := dec_ff hb3n | have hb3m := hb3n
    try simp only [List.get_eq_getElem] at hb3n
    try simp only [List.get_eq_getElem] at hb3m
    try (have hX : MineOk _ _ := hb3m; obtain ⟨hp1, hp5, hl7, haw⟩ := hX)
    try (have hX := haw i.toNat (by omega); obtain ⟨hf0, hf1, ht0, ht1, hft, hw1, hw6⟩ := hX)
    refine kops_skip rfl rfl rfl hb3 ?_
    refine kops_skip rfl rfl rfl hb3 ?_
    refine kops_skip rfl rfl rfl hb3 ?_
    refine kops_skip rfl rfl rfl hb3 ?_
    refine kops_skip rfl rfl rfl hb3 ?_
    refine kops_skip rfl rfl rfl hb3 ?_
    refine kops_skip rfl rfl rfl hb3 ?_
    refine kops_d rfl rfl (opv_pick_t rfl rfl rfl hb3) ?_
    refine kops_d rfl rfl (opv_move rfl rfl) ?_
    refine kops_skip rfl rfl rfl rfl ?_
    refine kops_skip rfl rfl rfl rfl ?_
    refine kops_skip rfl rfl rfl rfl ?_
    refine kops_skip rfl rfl rfl rfl ?_
    refine kops_skip rfl rfl rfl rfl ?_
    refine kops_skip rfl rfl rfl rfl ?_
    refine kops_skip rfl rfl rfl rfl ?_
    refine kops_d rfl rfl (opv_pick_t rfl rfl rfl rfl) ?_
    refine kops_nil ?_
    refine kn_then ?_
    refine kwp_cond_t rfl rfl ?_
    refine kwp_seq ?_
    refine kwp_region ?_
    refine kops_d rfl rfl (opv_build1 [] [(.int .i64 0), (.slice none 0 0)] rfl rfl Try.zeroValue35 Try.runUnderlying35 pl_35 rfl) ?_
    refine kops_step rfl (opk_store_box (e' := [_, _]) rfl rfl rfl Try.sizeOf35 rfl (by first | exact one_aw | exact one_int | exact one_sill | decide | (simp [Value.oneCell']; done) | (intro x hx; simp at hx; rcases hx with rfl | rfl | rfl | rfl | rfl <;> rfl)) rfl (by repeat (first | exact Upd.here | apply Upd.there)) ?_)
    refine kops_d rfl rfl (opv_assign rfl rfl) ?_
    refine kops_nil ?_
    refine kn_then ?_
    refine kwp_ret ?_
    refine kr_then ?_
    first
      | (refine kretc1 [⟨.slice none 0 0, 3, []⟩] rfl rfl Try.isAgg35 Try.sizeOf35 (by repeat (first | exact List.Mem.head _ | apply List.Mem.tail)) rfl ?_ (by (refine Sub.chunk (by repeat (first | exact Pick.here | apply Pick.there)) (by first | rfl | exact map_set' rfl) (Sub.nil _)))
         (have hf : ¬ WidenOk p l i := fun h => by first | exact absurd h.ok (by assumption) | (have h2 := h.i0; have h3 := h.i1; have h4 := h.nw; omega)); exact ⟨none, 0, 0, by rw [widenP_f hf, dec_f hf], by omega, by rw [widenR_f hf]; rfl⟩
         done)
      | (refine kretc1 [⟨.slice a34 _ c34, 3, (widenL l i.toNat).map encAirway⟩] rfl rfl Try.isAgg35 Try.sizeOf35 (by repeat (first | exact List.Mem.head _ | apply List.Mem.tail)) rfl ?_ (by (refine Sub.chunk (by repeat (first | exact Pick.here | apply Pick.there)) (by first | rfl | exact map_set' rfl) (Sub.nil _)))
         (have ht : WidenOk p l i := ⟨⟨hp1, hp5, hl7, haw⟩, by omega, by omega, by omega⟩); exact ⟨_, _, _, (by rw [widenP_t ht, dec_t ht] <;> rfl), by omega, (by rw [widenR_t ht] <;> rfl)⟩
         done)
  ·
    first | have hb3n := kb_nt hb3 | have hb3n := kb_nf hb3 | have hb3n := hb3
    first | have hb3m := of_decide_eq_true hb3n | have hb3m := of_decide_eq_false hb3n | have hb3m := kb_eq hb3n | have hb3m := kb_ne hb3n | have hb3m := kb_bne hb3n | have hb3m := kb_nbne hb3n | have hb3m := isIx_t hb3n | have hb3m := isIx_f hb3n | have hb3m := inR_t hb3n | have hb3m := inR_f hb3n | have hb3m := dec_tt hb3n | have hb3m := dec_ff hb3n | have hb3m := hb3n
    try simp only [List.get_eq_getElem] at hb3n
    try simp only [List.get_eq_getElem] at hb3m
    try (have hX : MineOk _ _ := hb3m; obtain ⟨hp1, hp5, hl7, haw⟩ := hX)
    try (have hX := haw i.toNat (by omega); obtain ⟨hf0, hf1, ht0, ht1, hft, hw1, hw6⟩ := hX)
    refine kops_gd rfl rfl rfl hb3 rfl (opv_move rfl rfl) ?_
    refine kops_gd rfl rfl rfl hb3 rfl (opv_fab rfl rfl fa_35_1 (by repeat (first | exact List.Mem.head _ | apply List.Mem.tail))) ?_
    refine kops_gd rfl rfl rfl hb3 rfl (opv_load rfl rfl Try.isAgg33 (by repeat (first | exact List.Mem.head _ | apply List.Mem.tail)) (by first | rfl | exact gx_map (by omega) | exact fill_get (by omega) | (simp; done)) rfl) ?_
    refine kops_gd rfl rfl rfl hb3 rfl (opv_len rfl rfl rfl Try.runUnderlying33) ?_
    refine kops_gd rfl rfl rfl hb3 rfl (by first | exact opv_sub rfl rfl rfl ⟨by omega, by omega⟩ | exact opv_ari rfl rfl rfl rfl) ?_
    refine kops_gk rfl rfl rfl hb3 (opk_call rfl Try.call56 rfl (c_spec_l1In _ _ _) ((perm_nil _)) ((Views.nil _)) ?_)
    rintro _ _ ⟨rfl, rfl⟩
    refine kops_gd rfl rfl rfl hb3 rfl (opv_not rfl rfl) ?_
    refine kops_d rfl rfl (opv_pick_f rfl rfl rfl hb3) ?_
    refine kops_d rfl rfl (opv_move rfl rfl) ?_
    refine kops_split 19 rfl (fun hb6 => ?_) (fun hb6 => ?_)
    ·
      first | have hb6n := kb_nt hb6 | have hb6n := kb_nf hb6 | have hb6n := hb6
      first | have hb6m := of_decide_eq_true hb6n | have hb6m := of_decide_eq_false hb6n | have hb6m := kb_eq hb6n | have hb6m := kb_ne hb6n | have hb6m := kb_bne hb6n | have hb6m := kb_nbne hb6n | have hb6m := isIx_t hb6n | have hb6m := isIx_f hb6n | have hb6m := inR_t hb6n | have hb6m := inR_f hb6n | have hb6m := dec_tt hb6n | have hb6m := dec_ff hb6n | have hb6m := hb6n
      try simp only [List.get_eq_getElem] at hb6n
      try simp only [List.get_eq_getElem] at hb6m
      try (have hX : MineOk _ _ := hb6m; obtain ⟨hp1, hp5, hl7, haw⟩ := hX)
      try (have hX := haw i.toNat (by omega); obtain ⟨hf0, hf1, ht0, ht1, hft, hw1, hw6⟩ := hX)
      refine kops_skip rfl rfl rfl hb6 ?_
      refine kops_skip rfl rfl rfl hb6 ?_
      refine kops_skip rfl rfl rfl hb6 ?_
      refine kops_skip rfl rfl rfl hb6 ?_
      refine kops_skip rfl rfl rfl hb6 ?_
      refine kops_skip rfl rfl rfl hb6 ?_
      refine kops_skip rfl rfl rfl hb6 ?_
      refine kops_d rfl rfl (opv_pick_t rfl rfl rfl hb6) ?_
      refine kops_nil ?_
      refine kn_then ?_
      refine kwp_cond_t rfl rfl ?_
      refine kwp_seq ?_
      refine kwp_region ?_
      refine kops_d rfl rfl (opv_build1 [] [(.int .i64 0), (.slice none 0 0)] rfl rfl Try.zeroValue35 Try.runUnderlying35 pl_35 rfl) ?_
      refine kops_step rfl (opk_store_box (e' := [_, _]) rfl rfl rfl Try.sizeOf35 rfl (by first | exact one_aw | exact one_int | exact one_sill | decide | (simp [Value.oneCell']; done) | (intro x hx; simp at hx; rcases hx with rfl | rfl | rfl | rfl | rfl <;> rfl)) rfl (by repeat (first | exact Upd.here | apply Upd.there)) ?_)
      refine kops_d rfl rfl (opv_assign rfl rfl) ?_
      refine kops_nil ?_
      refine kn_then ?_
      refine kwp_ret ?_
      refine kr_then ?_
      first
        | (refine kretc1 [⟨.slice none 0 0, 3, []⟩] rfl rfl Try.isAgg35 Try.sizeOf35 (by repeat (first | exact List.Mem.head _ | apply List.Mem.tail)) rfl ?_ (by (refine Sub.chunk (by repeat (first | exact Pick.here | apply Pick.there)) (by first | rfl | exact map_set' rfl) (Sub.nil _)))
           (have hf : ¬ WidenOk p l i := fun h => by first | exact absurd h.ok (by assumption) | (have h2 := h.i0; have h3 := h.i1; have h4 := h.nw; omega)); exact ⟨none, 0, 0, by rw [widenP_f hf, dec_f hf], by omega, by rw [widenR_f hf]; rfl⟩
           done)
        | (refine kretc1 [⟨.slice a34 _ c34, 3, (widenL l i.toNat).map encAirway⟩] rfl rfl Try.isAgg35 Try.sizeOf35 (by repeat (first | exact List.Mem.head _ | apply List.Mem.tail)) rfl ?_ (by (refine Sub.chunk (by repeat (first | exact Pick.here | apply Pick.there)) (by first | rfl | exact map_set' rfl) (Sub.nil _)))
           (have ht : WidenOk p l i := ⟨⟨hp1, hp5, hl7, haw⟩, by omega, by omega, by omega⟩); exact ⟨_, _, _, (by rw [widenP_t ht, dec_t ht] <;> rfl), by omega, (by rw [widenR_t ht] <;> rfl)⟩
           done)
    ·
      first | have hb6n := kb_nt hb6 | have hb6n := kb_nf hb6 | have hb6n := hb6
      first | have hb6m := of_decide_eq_true hb6n | have hb6m := of_decide_eq_false hb6n | have hb6m := kb_eq hb6n | have hb6m := kb_ne hb6n | have hb6m := kb_bne hb6n | have hb6m := kb_nbne hb6n | have hb6m := isIx_t hb6n | have hb6m := isIx_f hb6n | have hb6m := inR_t hb6n | have hb6m := inR_f hb6n | have hb6m := dec_tt hb6n | have hb6m := dec_ff hb6n | have hb6m := hb6n
      try simp only [List.get_eq_getElem] at hb6n
      try simp only [List.get_eq_getElem] at hb6m
      try (have hX : MineOk _ _ := hb6m; obtain ⟨hp1, hp5, hl7, haw⟩ := hX)
      try (have hX := haw i.toNat (by omega); obtain ⟨hf0, hf1, ht0, ht1, hft, hw1, hw6⟩ := hX)
      refine kops_gd rfl rfl rfl hb6 rfl (opv_fab rfl rfl fa_35_1 (by repeat (first | exact List.Mem.head _ | apply List.Mem.tail))) ?_
      refine kops_gd rfl rfl rfl hb6 rfl (opv_load rfl rfl Try.isAgg33 (by repeat (first | exact List.Mem.head _ | apply List.Mem.tail)) (by first | rfl | exact gx_map (by omega) | exact fill_get (by omega) | (simp; done)) rfl) ?_
      refine kops_gd rfl rfl rfl hb6 rfl (opv_move rfl rfl) ?_
      refine kops_gd rfl rfl rfl hb6 rfl (opv_ia rfl rfl rfl Try.runUnderlying33 Try.sizeOf77 (by repeat (first | exact List.Mem.head _ | apply List.Mem.tail)) (by first | rfl | exact (Int.toNat_of_nonneg (by omega)).symm) (by first | omega | (simp only [List.length_map]; omega) | (rw [fill_len (by omega)]; omega) | (simp; omega) | (simp; done))) ?_
      refine kops_gd rfl rfl rfl hb6 rfl (opv_fa rfl rfl fa_77_2 (by repeat (first | exact List.Mem.head _ | apply List.Mem.tail)) (by first | omega | (simp only [List.length_map]; omega) | (rw [fill_len (by omega)]; omega) | (simp; omega) | (simp; done))) ?_
      refine kops_gd rfl rfl rfl hb6 rfl (opv_load rfl rfl Try.isAgg3 (by repeat (first | exact List.Mem.head _ | apply List.Mem.tail)) (by first | rfl | exact gx_map (by omega) | exact fill_get (by omega) | (simp; done)) rfl) ?_
      refine kops_gd rfl rfl rfl hb6 rfl (opv_cmp rfl rfl rfl rfl) ?_
      refine kops_d rfl rfl (opv_pick_f rfl rfl rfl hb6) ?_
      refine kops_nil ?_
      refine kn_then ?_
      refine kwp_cond rfl (fun hc8 => ?_) (fun hc8 => ?_)
      ·
        first | have hc8n := kb_nt hc8 | have hc8n := kb_nf hc8 | have hc8n := hc8
        first | have hc8m := of_decide_eq_true hc8n | have hc8m := of_decide_eq_false hc8n | have hc8m := kb_eq hc8n | have hc8m := kb_ne hc8n | have hc8m := kb_bne hc8n | have hc8m := kb_nbne hc8n | have hc8m := isIx_t hc8n | have hc8m := isIx_f hc8n | have hc8m := inR_t hc8n | have hc8m := inR_f hc8n | have hc8m := dec_tt hc8n | have hc8m := dec_ff hc8n | have hc8m := hc8n
        try simp only [List.get_eq_getElem] at hc8n
        try simp only [List.get_eq_getElem] at hc8m
        try (have hX : MineOk _ _ := hc8m; obtain ⟨hp1, hp5, hl7, haw⟩ := hX)
        try (have hX := haw i.toNat (by omega); obtain ⟨hf0, hf1, ht0, ht1, hft, hw1, hw6⟩ := hX)
        refine kwp_seq ?_
        refine kwp_region ?_
        refine kops_d rfl rfl (opv_build1 [] [(.int .i64 0), (.slice none 0 0)] rfl rfl Try.zeroValue35 Try.runUnderlying35 pl_35 rfl) ?_
        refine kops_step rfl (opk_store_box (e' := [_, _]) rfl rfl rfl Try.sizeOf35 rfl (by first | exact one_aw | exact one_int | exact one_sill | decide | (simp [Value.oneCell']; done) | (intro x hx; simp at hx; rcases hx with rfl | rfl | rfl | rfl | rfl <;> rfl)) rfl (by repeat (first | exact Upd.here | apply Upd.there)) ?_)
        refine kops_d rfl rfl (opv_assign rfl rfl) ?_
        refine kops_nil ?_
        refine kn_then ?_
        refine kwp_ret ?_
        refine kr_then ?_
        first
          | (refine kretc1 [⟨.slice none 0 0, 3, []⟩] rfl rfl Try.isAgg35 Try.sizeOf35 (by repeat (first | exact List.Mem.head _ | apply List.Mem.tail)) rfl ?_ (by (refine Sub.chunk (by repeat (first | exact Pick.here | apply Pick.there)) (by first | rfl | exact map_set' rfl) (Sub.nil _)))
             (have hf : ¬ WidenOk p l i := fun h => by first | exact absurd h.ok (by assumption) | (have h2 := h.i0; have h3 := h.i1; have h4 := h.nw; omega)); exact ⟨none, 0, 0, by rw [widenP_f hf, dec_f hf], by omega, by rw [widenR_f hf]; rfl⟩
             done)
          | (refine kretc1 [⟨.slice a34 _ c34, 3, (widenL l i.toNat).map encAirway⟩] rfl rfl Try.isAgg35 Try.sizeOf35 (by repeat (first | exact List.Mem.head _ | apply List.Mem.tail)) rfl ?_ (by (refine Sub.chunk (by repeat (first | exact Pick.here | apply Pick.there)) (by first | rfl | exact map_set' rfl) (Sub.nil _)))
             (have ht : WidenOk p l i := ⟨⟨hp1, hp5, hl7, haw⟩, by omega, by omega, by omega⟩); exact ⟨_, _, _, (by rw [widenP_t ht, dec_t ht] <;> rfl), by omega, (by rw [widenR_t ht] <;> rfl)⟩
             done)
      ·
        first | have hc8n := kb_nt hc8 | have hc8n := kb_nf hc8 | have hc8n := hc8
        first | have hc8m := of_decide_eq_true hc8n | have hc8m := of_decide_eq_false hc8n | have hc8m := kb_eq hc8n | have hc8m := kb_ne hc8n | have hc8m := kb_bne hc8n | have hc8m := kb_nbne hc8n | have hc8m := isIx_t hc8n | have hc8m := isIx_f hc8n | have hc8m := inR_t hc8n | have hc8m := inR_f hc8n | have hc8m := dec_tt hc8n | have hc8m := dec_ff hc8n | have hc8m := hc8n
        try simp only [List.get_eq_getElem] at hc8n
        try simp only [List.get_eq_getElem] at hc8m
        try (have hX : MineOk _ _ := hc8m; obtain ⟨hp1, hp5, hl7, haw⟩ := hX)
        try (have hX := haw i.toNat (by omega); obtain ⟨hf0, hf1, ht0, ht1, hft, hw1, hw6⟩ := hX)
        refine kwp_skip ?_
        refine kn_then ?_
        refine kwp_seq ?_
        refine kwp_tree (.quiet 0 (.quiet 1 (.quiet 3 (.quiet 4 (.two 2 (.two 5 (.quiet 6 (.one 7 (.one 8 .stop))) 7 (.one 5 (.quiet 6 (.one 8 .stop)))) 7 (.one 2 (.one 5 (.quiet 6 (.one 8 .stop))))))))) [8] _ drawMixed (by kernel_rfl) (fun _ _ _ h => h) (Sub.refl _) ?_
        refine kt_d rfl rfl rfl (opv_fab rfl rfl fa_35_0 (by repeat (first | exact List.Mem.head _ | apply List.Mem.tail))) ?_
        refine kt_d rfl rfl rfl (opv_load rfl rfl Try.isAgg3 (by repeat (first | exact List.Mem.head _ | apply List.Mem.tail)) (by first | rfl | exact gx_map (by omega) | exact fill_get (by omega) | (simp; done)) rfl) ?_
        refine kt_d rfl rfl rfl (opv_fab rfl rfl fa_35_1 (by repeat (first | exact List.Mem.head _ | apply List.Mem.tail))) ?_
        refine kt_d rfl rfl rfl (opv_load rfl rfl Try.isAgg33 (by repeat (first | exact List.Mem.head _ | apply List.Mem.tail)) (by first | rfl | exact gx_map (by omega) | exact fill_get (by omega) | (simp; done)) rfl) ?_
        refine kt_two ?_ ?_
        ·
          refine kl_k rfl rfl (opk_buildSlice (vs := []) rfl rfl rfl Try.runUnderlying33 Try.sizeOf77 Try.zeroValue77 rfl (by decide) (by simp [Value.cells]) (by decide) (fun a31 => ?_))
          refine ⟨.inl (by (repeat (first | exact Sub.refl _ | exact Sub.nil _ | refine Sub.chunk (by repeat (first | exact Pick.here | apply Pick.there)) (by first | rfl | (simp; done) | (congr 1; omega)) ?_))), ?_⟩
          refine kt_two ?_ ?_
          ·
            refine kl_k rfl rfl (opk_append rfl rfl rfl Try.underlying33 Try.type77 rfl rfl rfl (by repeat (first | exact List.Mem.head _ | apply List.Mem.tail)) (by first | exact one_aw | exact one_int | exact one_sill | decide | (simp [Value.oneCell']; done) | (intro x hx; simp at hx; rcases hx with rfl | rfl | rfl | rfl | rfl <;> rfl)) (by repeat (first | exact Pick.here | apply Pick.there)) (by first | omega | (simp; omega)) (show _ * 24 ≤ 140737488355328 by first | omega | (simp; omega)) (fun a34 c34 => ?_))
            refine ⟨.inl (by (repeat (first | exact Sub.refl _ | exact Sub.nil _ | refine Sub.chunk (by repeat (first | exact Pick.here | apply Pick.there)) (by first | rfl | (simp; done) | (congr 1; omega)) ?_))), ?_⟩
            refine kt_d rfl rfl rfl (opv_build1 [(0, _), (1, _)] [_, _] rfl rfl Try.zeroValue35 Try.runUnderlying35 pl_35 rfl) ?_
            refine kt_one ?_
            refine kl_k rfl rfl (opk_alloc' (e := [_, _]) 2 rfl Try.zeroValue35 rfl rfl (by decide) (fun p6 => ?_))
            refine ⟨.inl (by (repeat (first | exact Sub.refl _ | exact Sub.nil _ | refine Sub.chunk (by repeat (first | exact Pick.here | apply Pick.there)) (by first | rfl | (simp; done) | (congr 1; omega)) ?_))), ?_⟩
            refine kt_one ?_
            refine kl_k rfl rfl (opk_store_box (e' := [_, _]) rfl rfl rfl Try.sizeOf35 rfl (by first | exact one_aw | exact one_int | exact one_sill | decide | (simp [Value.oneCell']; done) | (intro x hx; simp at hx; rcases hx with rfl | rfl | rfl | rfl | rfl <;> rfl)) rfl (by repeat (first | exact Upd.here | apply Upd.there)) ?_)
            refine ⟨.inr ⟨by decide, rfl⟩, ?_⟩
            refine kt_nil ?_
            refine kn_then ?_
            refine kwp_seq ?_
            refine kwp_draw [(0, true), (1, true), (2, true), (3, true), (4, true), (5, true), (6, true), (7, true), (8, true), (9, true), (10, false), (11, true), (12, false)] [12] _ drawMixed (by kernel_rfl) (fun _ _ _ h => h) (Sub.refl _) ?_
            refine ks_d rfl rfl rfl (opv_fab rfl rfl fa_35_1 (by repeat (first | exact List.Mem.head _ | apply List.Mem.tail))) ?_
            refine ks_d rfl rfl rfl (opv_load rfl rfl Try.isAgg33 (by repeat (first | exact List.Mem.head _ | apply List.Mem.tail)) (by first | rfl | exact gx_map (by omega) | exact fill_get (by omega) | (simp; done)) rfl) ?_
            refine ks_d rfl rfl rfl (opv_move rfl rfl) ?_
            refine ks_d rfl rfl rfl (opv_fab rfl rfl fa_35_1 (by repeat (first | exact List.Mem.head _ | apply List.Mem.tail))) ?_
            refine ks_d rfl rfl rfl (opv_load rfl rfl Try.isAgg33 (by repeat (first | exact List.Mem.head _ | apply List.Mem.tail)) (by first | rfl | exact gx_map (by omega) | exact fill_get (by omega) | (simp; done)) rfl) ?_
            refine ks_d rfl rfl rfl (opv_move rfl rfl) ?_
            refine ks_d rfl rfl rfl (opv_ia rfl rfl rfl Try.runUnderlying33 Try.sizeOf77 (by repeat (first | exact List.Mem.head _ | apply List.Mem.tail)) (by first | rfl | exact (Int.toNat_of_nonneg (by omega)).symm) (by first | omega | (simp only [List.length_map]; omega) | (rw [fill_len (by omega)]; omega) | (simp; omega) | (simp; done))) ?_
            refine ks_d rfl rfl rfl (opv_fa rfl rfl fa_77_2 (by repeat (first | exact List.Mem.head _ | apply List.Mem.tail)) (by first | omega | (simp only [List.length_map]; omega) | (rw [fill_len (by omega)]; omega) | (simp; omega) | (simp; done))) ?_
            refine ks_d rfl rfl rfl (opv_load rfl rfl Try.isAgg3 (by repeat (first | exact List.Mem.head _ | apply List.Mem.tail)) (by first | rfl | exact gx_map (by omega) | exact fill_get (by omega) | (simp; done)) rfl) ?_
            refine ks_d rfl rfl rfl (by first | exact opv_add rfl rfl rfl ⟨by omega, by omega⟩ | exact opv_ari rfl rfl rfl rfl) ?_
            refine ks_dk rfl rfl rfl (Sub.refl _) (opv_ia rfl rfl rfl Try.runUnderlying33 Try.sizeOf77 (by repeat (first | exact List.Mem.head _ | apply List.Mem.tail)) (by first | rfl | exact (Int.toNat_of_nonneg (by omega)).symm) (by first | omega | (simp only [List.length_map]; omega) | (rw [fill_len (by omega)]; omega) | (simp; omega) | (simp; done))) ?_
            refine ks_d rfl rfl rfl (opv_fa rfl rfl fa_77_2 (by repeat (first | exact List.Mem.head _ | apply List.Mem.tail)) (by first | omega | (simp only [List.length_map]; omega) | (rw [fill_len (by omega)]; omega) | (simp; omega) | (simp; done))) ?_
            refine ks_k rfl rfl (opk_store rfl rfl rfl Try.sizeOf3 rfl (by repeat (first | exact Upd.here | apply Upd.there)) (by first | rfl | exact gx_map (by omega) | exact fill_get (by omega) | (simp; done)) (by decide) ?_)
            refine ⟨.inr ⟨by decide, rfl⟩, ?_⟩
            refine ks_nil ?_
            refine kn_then ?_
            refine kwp_seq ?_
            refine kwp_region ?_
            refine kops_d rfl rfl (opv_load_box rfl rfl Try.isAgg35 Try.sizeOf35 (by repeat (first | exact List.Mem.head _ | apply List.Mem.tail))) ?_
            refine kops_step rfl (opk_store_box (e' := [_, _]) rfl rfl rfl Try.sizeOf35 rfl (by first | exact one_aw | exact one_int | exact one_sill | decide | (simp [Value.oneCell']; done) | (intro x hx; simp at hx; rcases hx with rfl | rfl | rfl | rfl | rfl <;> rfl)) rfl (by repeat (first | exact Upd.here | apply Upd.there)) ?_)
            refine kops_d rfl rfl (opv_assign rfl rfl) ?_
            refine kops_nil ?_
            refine kn_then ?_
            refine kwp_ret ?_
            first
              | (refine kretc1 [⟨.slice none 0 0, 3, []⟩] rfl rfl Try.isAgg35 Try.sizeOf35 (by repeat (first | exact List.Mem.head _ | apply List.Mem.tail)) rfl ?_ (by (refine Sub.chunk (by repeat (first | exact Pick.here | apply Pick.there)) (by first | rfl | exact map_set' rfl) (Sub.nil _)))
                 (have hf : ¬ WidenOk p l i := fun h => by first | exact absurd h.ok (by assumption) | (have h2 := h.i0; have h3 := h.i1; have h4 := h.nw; omega)); exact ⟨none, 0, 0, by rw [widenP_f hf, dec_f hf], by omega, by rw [widenR_f hf]; rfl⟩
                 done)
              | (refine kretc1 [⟨.slice a34 _ c34, 3, (widenL l i.toNat).map encAirway⟩] rfl rfl Try.isAgg35 Try.sizeOf35 (by repeat (first | exact List.Mem.head _ | apply List.Mem.tail)) rfl ?_ (by (refine Sub.chunk (by repeat (first | exact Pick.here | apply Pick.there)) (by first | rfl | exact map_set' rfl) (Sub.nil _)))
                 (have ht : WidenOk p l i := ⟨⟨hp1, hp5, hl7, haw⟩, by omega, by omega, by omega⟩); exact ⟨_, _, _, (by rw [widenP_t ht, dec_t ht] <;> rfl), by omega, (by rw [widenR_t ht] <;> rfl)⟩
                 done)
          ·
            refine kl_k rfl rfl (opk_alloc' (e := [_, _]) 2 rfl Try.zeroValue35 rfl rfl (by decide) (fun p6 => ?_))
            refine ⟨.inl (by (repeat (first | exact Sub.refl _ | exact Sub.nil _ | refine Sub.chunk (by repeat (first | exact Pick.here | apply Pick.there)) (by first | rfl | (simp; done) | (congr 1; omega)) ?_))), ?_⟩
            refine kt_one ?_
            refine kl_k rfl rfl (opk_append rfl rfl rfl Try.underlying33 Try.type77 rfl rfl rfl (by repeat (first | exact List.Mem.head _ | apply List.Mem.tail)) (by first | exact one_aw | exact one_int | exact one_sill | decide | (simp [Value.oneCell']; done) | (intro x hx; simp at hx; rcases hx with rfl | rfl | rfl | rfl | rfl <;> rfl)) (by repeat (first | exact Pick.here | apply Pick.there)) (by first | omega | (simp; omega)) (show _ * 24 ≤ 140737488355328 by first | omega | (simp; omega)) (fun a34 c34 => ?_))
            refine ⟨.inl (by (repeat (first | exact Sub.refl _ | exact Sub.nil _ | refine Sub.chunk (by repeat (first | exact Pick.here | apply Pick.there)) (by first | rfl | (simp; done) | (congr 1; omega)) ?_))), ?_⟩
            refine kt_d rfl rfl rfl (opv_build1 [(0, _), (1, _)] [_, _] rfl rfl Try.zeroValue35 Try.runUnderlying35 pl_35 rfl) ?_
            refine kt_one ?_
            refine kl_k rfl rfl (opk_store_box (e' := [_, _]) rfl rfl rfl Try.sizeOf35 rfl (by first | exact one_aw | exact one_int | exact one_sill | decide | (simp [Value.oneCell']; done) | (intro x hx; simp at hx; rcases hx with rfl | rfl | rfl | rfl | rfl <;> rfl)) rfl (by repeat (first | exact Upd.here | apply Upd.there)) ?_)
            refine ⟨.inr ⟨by decide, rfl⟩, ?_⟩
            refine kt_nil ?_
            refine kn_then ?_
            refine kwp_seq ?_
            refine kwp_draw [(0, true), (1, true), (2, true), (3, true), (4, true), (5, true), (6, true), (7, true), (8, true), (9, true), (10, false), (11, true), (12, false)] [12] _ drawMixed (by kernel_rfl) (fun _ _ _ h => h) (Sub.refl _) ?_
            refine ks_d rfl rfl rfl (opv_fab rfl rfl fa_35_1 (by repeat (first | exact List.Mem.head _ | apply List.Mem.tail))) ?_
            refine ks_d rfl rfl rfl (opv_load rfl rfl Try.isAgg33 (by repeat (first | exact List.Mem.head _ | apply List.Mem.tail)) (by first | rfl | exact gx_map (by omega) | exact fill_get (by omega) | (simp; done)) rfl) ?_
            refine ks_d rfl rfl rfl (opv_move rfl rfl) ?_
            refine ks_d rfl rfl rfl (opv_fab rfl rfl fa_35_1 (by repeat (first | exact List.Mem.head _ | apply List.Mem.tail))) ?_
            refine ks_d rfl rfl rfl (opv_load rfl rfl Try.isAgg33 (by repeat (first | exact List.Mem.head _ | apply List.Mem.tail)) (by first | rfl | exact gx_map (by omega) | exact fill_get (by omega) | (simp; done)) rfl) ?_
            refine ks_d rfl rfl rfl (opv_move rfl rfl) ?_
            refine ks_d rfl rfl rfl (opv_ia rfl rfl rfl Try.runUnderlying33 Try.sizeOf77 (by repeat (first | exact List.Mem.head _ | apply List.Mem.tail)) (by first | rfl | exact (Int.toNat_of_nonneg (by omega)).symm) (by first | omega | (simp only [List.length_map]; omega) | (rw [fill_len (by omega)]; omega) | (simp; omega) | (simp; done))) ?_
            refine ks_d rfl rfl rfl (opv_fa rfl rfl fa_77_2 (by repeat (first | exact List.Mem.head _ | apply List.Mem.tail)) (by first | omega | (simp only [List.length_map]; omega) | (rw [fill_len (by omega)]; omega) | (simp; omega) | (simp; done))) ?_
            refine ks_d rfl rfl rfl (opv_load rfl rfl Try.isAgg3 (by repeat (first | exact List.Mem.head _ | apply List.Mem.tail)) (by first | rfl | exact gx_map (by omega) | exact fill_get (by omega) | (simp; done)) rfl) ?_
            refine ks_d rfl rfl rfl (by first | exact opv_add rfl rfl rfl ⟨by omega, by omega⟩ | exact opv_ari rfl rfl rfl rfl) ?_
            refine ks_dk rfl rfl rfl (Sub.refl _) (opv_ia rfl rfl rfl Try.runUnderlying33 Try.sizeOf77 (by repeat (first | exact List.Mem.head _ | apply List.Mem.tail)) (by first | rfl | exact (Int.toNat_of_nonneg (by omega)).symm) (by first | omega | (simp only [List.length_map]; omega) | (rw [fill_len (by omega)]; omega) | (simp; omega) | (simp; done))) ?_
            refine ks_d rfl rfl rfl (opv_fa rfl rfl fa_77_2 (by repeat (first | exact List.Mem.head _ | apply List.Mem.tail)) (by first | omega | (simp only [List.length_map]; omega) | (rw [fill_len (by omega)]; omega) | (simp; omega) | (simp; done))) ?_
            refine ks_k rfl rfl (opk_store rfl rfl rfl Try.sizeOf3 rfl (by repeat (first | exact Upd.here | apply Upd.there)) (by first | rfl | exact gx_map (by omega) | exact fill_get (by omega) | (simp; done)) (by decide) ?_)
            refine ⟨.inr ⟨by decide, rfl⟩, ?_⟩
            refine ks_nil ?_
            refine kn_then ?_
            refine kwp_seq ?_
            refine kwp_region ?_
            refine kops_d rfl rfl (opv_load_box rfl rfl Try.isAgg35 Try.sizeOf35 (by repeat (first | exact List.Mem.head _ | apply List.Mem.tail))) ?_
            refine kops_step rfl (opk_store_box (e' := [_, _]) rfl rfl rfl Try.sizeOf35 rfl (by first | exact one_aw | exact one_int | exact one_sill | decide | (simp [Value.oneCell']; done) | (intro x hx; simp at hx; rcases hx with rfl | rfl | rfl | rfl | rfl <;> rfl)) rfl (by repeat (first | exact Upd.here | apply Upd.there)) ?_)
            refine kops_d rfl rfl (opv_assign rfl rfl) ?_
            refine kops_nil ?_
            refine kn_then ?_
            refine kwp_ret ?_
            first
              | (refine kretc1 [⟨.slice none 0 0, 3, []⟩] rfl rfl Try.isAgg35 Try.sizeOf35 (by repeat (first | exact List.Mem.head _ | apply List.Mem.tail)) rfl ?_ (by (refine Sub.chunk (by repeat (first | exact Pick.here | apply Pick.there)) (by first | rfl | exact map_set' rfl) (Sub.nil _)))
                 (have hf : ¬ WidenOk p l i := fun h => by first | exact absurd h.ok (by assumption) | (have h2 := h.i0; have h3 := h.i1; have h4 := h.nw; omega)); exact ⟨none, 0, 0, by rw [widenP_f hf, dec_f hf], by omega, by rw [widenR_f hf]; rfl⟩
                 done)
              | (refine kretc1 [⟨.slice a34 _ c34, 3, (widenL l i.toNat).map encAirway⟩] rfl rfl Try.isAgg35 Try.sizeOf35 (by repeat (first | exact List.Mem.head _ | apply List.Mem.tail)) rfl ?_ (by (refine Sub.chunk (by repeat (first | exact Pick.here | apply Pick.there)) (by first | rfl | exact map_set' rfl) (Sub.nil _)))
                 (have ht : WidenOk p l i := ⟨⟨hp1, hp5, hl7, haw⟩, by omega, by omega, by omega⟩); exact ⟨_, _, _, (by rw [widenP_t ht, dec_t ht] <;> rfl), by omega, (by rw [widenR_t ht] <;> rfl)⟩
                 done)
        ·
          refine kl_k rfl rfl (opk_alloc' (e := [_, _]) 2 rfl Try.zeroValue35 rfl rfl (by decide) (fun p6 => ?_))
          refine ⟨.inl (by (repeat (first | exact Sub.refl _ | exact Sub.nil _ | refine Sub.chunk (by repeat (first | exact Pick.here | apply Pick.there)) (by first | rfl | (simp; done) | (congr 1; omega)) ?_))), ?_⟩
          refine kt_one ?_
          refine kl_k rfl rfl (opk_buildSlice (vs := []) rfl rfl rfl Try.runUnderlying33 Try.sizeOf77 Try.zeroValue77 rfl (by decide) (by simp [Value.cells]) (by decide) (fun a31 => ?_))
          refine ⟨.inl (by (repeat (first | exact Sub.refl _ | exact Sub.nil _ | refine Sub.chunk (by repeat (first | exact Pick.here | apply Pick.there)) (by first | rfl | (simp; done) | (congr 1; omega)) ?_))), ?_⟩
          refine kt_one ?_
          refine kl_k rfl rfl (opk_append rfl rfl rfl Try.underlying33 Try.type77 rfl rfl rfl (by repeat (first | exact List.Mem.head _ | apply List.Mem.tail)) (by first | exact one_aw | exact one_int | exact one_sill | decide | (simp [Value.oneCell']; done) | (intro x hx; simp at hx; rcases hx with rfl | rfl | rfl | rfl | rfl <;> rfl)) (by repeat (first | exact Pick.here | apply Pick.there)) (by first | omega | (simp; omega)) (show _ * 24 ≤ 140737488355328 by first | omega | (simp; omega)) (fun a34 c34 => ?_))
          refine ⟨.inl (by (repeat (first | exact Sub.refl _ | exact Sub.nil _ | refine Sub.chunk (by repeat (first | exact Pick.here | apply Pick.there)) (by first | rfl | (simp; done) | (congr 1; omega)) ?_))), ?_⟩
          refine kt_d rfl rfl rfl (opv_build1 [(0, _), (1, _)] [_, _] rfl rfl Try.zeroValue35 Try.runUnderlying35 pl_35 rfl) ?_
          refine kt_one ?_
          refine kl_k rfl rfl (opk_store_box (e' := [_, _]) rfl rfl rfl Try.sizeOf35 rfl (by first | exact one_aw | exact one_int | exact one_sill | decide | (simp [Value.oneCell']; done) | (intro x hx; simp at hx; rcases hx with rfl | rfl | rfl | rfl | rfl <;> rfl)) rfl (by repeat (first | exact Upd.here | apply Upd.there)) ?_)
          refine ⟨.inr ⟨by decide, rfl⟩, ?_⟩
          refine kt_nil ?_
          refine kn_then ?_
          refine kwp_seq ?_
          refine kwp_draw [(0, true), (1, true), (2, true), (3, true), (4, true), (5, true), (6, true), (7, true), (8, true), (9, true), (10, false), (11, true), (12, false)] [12] _ drawMixed (by kernel_rfl) (fun _ _ _ h => h) (Sub.refl _) ?_
          refine ks_d rfl rfl rfl (opv_fab rfl rfl fa_35_1 (by repeat (first | exact List.Mem.head _ | apply List.Mem.tail))) ?_
          refine ks_d rfl rfl rfl (opv_load rfl rfl Try.isAgg33 (by repeat (first | exact List.Mem.head _ | apply List.Mem.tail)) (by first | rfl | exact gx_map (by omega) | exact fill_get (by omega) | (simp; done)) rfl) ?_
          refine ks_d rfl rfl rfl (opv_move rfl rfl) ?_
          refine ks_d rfl rfl rfl (opv_fab rfl rfl fa_35_1 (by repeat (first | exact List.Mem.head _ | apply List.Mem.tail))) ?_
          refine ks_d rfl rfl rfl (opv_load rfl rfl Try.isAgg33 (by repeat (first | exact List.Mem.head _ | apply List.Mem.tail)) (by first | rfl | exact gx_map (by omega) | exact fill_get (by omega) | (simp; done)) rfl) ?_
          refine ks_d rfl rfl rfl (opv_move rfl rfl) ?_
          refine ks_d rfl rfl rfl (opv_ia rfl rfl rfl Try.runUnderlying33 Try.sizeOf77 (by repeat (first | exact List.Mem.head _ | apply List.Mem.tail)) (by first | rfl | exact (Int.toNat_of_nonneg (by omega)).symm) (by first | omega | (simp only [List.length_map]; omega) | (rw [fill_len (by omega)]; omega) | (simp; omega) | (simp; done))) ?_
          refine ks_d rfl rfl rfl (opv_fa rfl rfl fa_77_2 (by repeat (first | exact List.Mem.head _ | apply List.Mem.tail)) (by first | omega | (simp only [List.length_map]; omega) | (rw [fill_len (by omega)]; omega) | (simp; omega) | (simp; done))) ?_
          refine ks_d rfl rfl rfl (opv_load rfl rfl Try.isAgg3 (by repeat (first | exact List.Mem.head _ | apply List.Mem.tail)) (by first | rfl | exact gx_map (by omega) | exact fill_get (by omega) | (simp; done)) rfl) ?_
          refine ks_d rfl rfl rfl (by first | exact opv_add rfl rfl rfl ⟨by omega, by omega⟩ | exact opv_ari rfl rfl rfl rfl) ?_
          refine ks_dk rfl rfl rfl (Sub.refl _) (opv_ia rfl rfl rfl Try.runUnderlying33 Try.sizeOf77 (by repeat (first | exact List.Mem.head _ | apply List.Mem.tail)) (by first | rfl | exact (Int.toNat_of_nonneg (by omega)).symm) (by first | omega | (simp only [List.length_map]; omega) | (rw [fill_len (by omega)]; omega) | (simp; omega) | (simp; done))) ?_
          refine ks_d rfl rfl rfl (opv_fa rfl rfl fa_77_2 (by repeat (first | exact List.Mem.head _ | apply List.Mem.tail)) (by first | omega | (simp only [List.length_map]; omega) | (rw [fill_len (by omega)]; omega) | (simp; omega) | (simp; done))) ?_
          refine ks_k rfl rfl (opk_store rfl rfl rfl Try.sizeOf3 rfl (by repeat (first | exact Upd.here | apply Upd.there)) (by first | rfl | exact gx_map (by omega) | exact fill_get (by omega) | (simp; done)) (by decide) ?_)
          refine ⟨.inr ⟨by decide, rfl⟩, ?_⟩
          refine ks_nil ?_
          refine kn_then ?_
          refine kwp_seq ?_
          refine kwp_region ?_
          refine kops_d rfl rfl (opv_load_box rfl rfl Try.isAgg35 Try.sizeOf35 (by repeat (first | exact List.Mem.head _ | apply List.Mem.tail))) ?_
          refine kops_step rfl (opk_store_box (e' := [_, _]) rfl rfl rfl Try.sizeOf35 rfl (by first | exact one_aw | exact one_int | exact one_sill | decide | (simp [Value.oneCell']; done) | (intro x hx; simp at hx; rcases hx with rfl | rfl | rfl | rfl | rfl <;> rfl)) rfl (by repeat (first | exact Upd.here | apply Upd.there)) ?_)
          refine kops_d rfl rfl (opv_assign rfl rfl) ?_
          refine kops_nil ?_
          refine kn_then ?_
          refine kwp_ret ?_
          first
            | (refine kretc1 [⟨.slice none 0 0, 3, []⟩] rfl rfl Try.isAgg35 Try.sizeOf35 (by repeat (first | exact List.Mem.head _ | apply List.Mem.tail)) rfl ?_ (by (refine Sub.chunk (by repeat (first | exact Pick.here | apply Pick.there)) (by first | rfl | exact map_set' rfl) (Sub.nil _)))
               (have hf : ¬ WidenOk p l i := fun h => by first | exact absurd h.ok (by assumption) | (have h2 := h.i0; have h3 := h.i1; have h4 := h.nw; omega)); exact ⟨none, 0, 0, by rw [widenP_f hf, dec_f hf], by omega, by rw [widenR_f hf]; rfl⟩
               done)
            | (refine kretc1 [⟨.slice a34 _ c34, 3, (widenL l i.toNat).map encAirway⟩] rfl rfl Try.isAgg35 Try.sizeOf35 (by repeat (first | exact List.Mem.head _ | apply List.Mem.tail)) rfl ?_ (by (refine Sub.chunk (by repeat (first | exact Pick.here | apply Pick.there)) (by first | rfl | exact map_set' rfl) (Sub.nil _)))
               (have ht : WidenOk p l i := ⟨⟨hp1, hp5, hl7, haw⟩, by omega, by omega, by omega⟩); exact ⟨_, _, _, (by rw [widenP_t ht, dec_t ht] <;> rfl), by omega, (by rw [widenR_t ht] <;> rfl)⟩
               done)

end Go.Proofs.Ytfgialdcilldiaa
