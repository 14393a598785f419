/- The walks of some functions, each by its contract; conditions: those that each contract names. -/
import Derived.Test.YtfgialdcilldiaaWi
import Derived.Test.YtfgialdcilldiaaPc
namespace Go.Proofs.Ytfgialdcilldiaa
open Go
set_option linter.unusedVariables false
set_option linter.unusedSimpArgs false


set_option maxRecDepth 20000 in
theorem c_impl_WaterAt (af aa al : Option Addr) (nf cf na ca ns cs : Nat) (F A : List Int) (S : List Sill) (lv : Int) (hb : nf ≤ 9223372036854775807 ∧ na ≤ 9223372036854775807 ∧ ns ≤ 9223372036854775807) :
    Triple Try.prog 37 [.agg #[.slice af nf cf, .slice aa na ca, .slice al ns cs], .int .i64 lv] [⟨.slice af nf cf, 1, F.map encI⟩, ⟨.slice aa na ca, 1, A.map encI⟩, ⟨.slice al ns cs, 3, S.map encSill⟩] [] (fun r ch => r = .int .i64 (waterAt F A S lv) ∧ ch = []) := by
  refine triple_start 41 Try.func37 Try.ntmps37 rfl rfl (fun w0 => ?_)
  refine kwp_len (List.Mem.head _) (fun hnf => ?_)
  refine kwp_len (List.Mem.tail _ (List.Mem.head _)) (fun hna => ?_)
  refine kwp_len (List.Mem.tail _ (List.Mem.tail _ (List.Mem.head _))) (fun hns => ?_)
  simp only [List.length_map] at hnf hna hns
  subst hnf hna hns
  refine kwp_seq ?_
  refine kwp_region ?_
  refine kops_step rfl (opk_box' (e := [_, _, _]) 3 rfl rfl rfl rfl (by decide) (fun p2 => ?_))
  refine kops_d rfl rfl (opv_assign rfl rfl) ?_
  refine kops_nil ?_
  refine kn_then ?_
  refine kwp_seq ?_
  refine kwp_seq ?_
  refine kwp_region ?_
  refine kops_d rfl rfl (opv_load_box rfl rfl Try.isAgg47 Try.sizeOf47 (by repeat (first | exact List.Mem.head _ | apply List.Mem.tail))) ?_
  refine kops_step rfl (opk_call rfl Try.call26 rfl (c_impl_CaveValid _ _ _ _ _ _ _ _ _ _ _ _  ⟨by omega, by omega, by omega⟩) ((perm_nil _)) (Views.cons (by repeat (first | exact List.Mem.head _ | apply List.Mem.tail)) (View.refl _) (Views.cons (by repeat (first | exact List.Mem.head _ | apply List.Mem.tail)) (View.refl _) (Views.cons (by repeat (first | exact List.Mem.head _ | apply List.Mem.tail)) (View.refl _) ((Views.nil _))))) ?_)
  rintro _ _ ⟨rfl, rfl⟩
  refine kops_d rfl rfl (opv_not rfl rfl) ?_
  refine kops_d rfl rfl (opv_move rfl rfl) ?_
  refine kops_split 11 rfl (fun hb3 => ?_) (fun hb3 => ?_)
  ·
    first | have hb3n := kb_nt hb3 | have hb3n := kb_nf hb3 | have hb3n := hb3
    first | have hb3m := of_decide_eq_true hb3n | have hb3m := of_decide_eq_false hb3n | have hb3m := kb_eq hb3n | have hb3m := kb_ne hb3n | have hb3m := kb_bne hb3n | have hb3m := kb_nbne hb3n | have hb3m := isIx_t hb3n | have hb3m := isIx_f hb3n | have hb3m := inR_t hb3n | have hb3m := inR_f hb3n | have hb3m := dec_tt hb3n | have hb3m := dec_ff hb3n | have hb3m := hb3n
    try simp only [List.get_eq_getElem] at hb3n
    try simp only [List.get_eq_getElem] at hb3m
    try (have hC : CaveOk _ _ _ := hb3m; obtain ⟨hn1, hn6, hal, hs9, hfl, har, hsl⟩ := hC)
    try have hC : CaveOk F A S := hb3m
    try have hfk := hfl k (by omega)
    try have hak := har k (by omega)
    try have hwb := water_bd hfk hak (lv := lv) ⟨by omega, by omega⟩
    try have hbd := waterTo_bd (n := F.length) hfl har (lv := lv) ⟨by omega, by omega⟩ k (by omega)
    refine kops_skip rfl rfl rfl hb3 ?_
    refine kops_skip rfl rfl rfl hb3 ?_
    refine kops_d rfl rfl (opv_pick_t rfl rfl rfl hb3) ?_
    refine kops_d rfl rfl (opv_move rfl rfl) ?_
    refine kops_skip rfl rfl rfl rfl ?_
    refine kops_skip rfl rfl rfl rfl ?_
    refine kops_d rfl rfl (opv_pick_t rfl rfl rfl rfl) ?_
    refine kops_nil ?_
    refine kn_then ?_
    refine kwp_cond_t rfl rfl ?_
    refine kwp_seq ?_
    refine kwp_region ?_
    refine kops_d rfl rfl (opv_assign rfl rfl) ?_
    refine kops_nil ?_
    refine kn_then ?_
    refine kwp_ret ?_
    refine kr_then ?_
    refine kret1 [] rfl rfl ?_ (by (repeat (first | exact Sub.refl _ | exact Sub.nil _ | refine Sub.chunk (by repeat (first | exact Pick.here | apply Pick.there)) (by first | rfl | (simp; done) | (congr 1; omega)) ?_)))
    first | exact ⟨by rw [waterAt_f (fun h => by first | exact absurd h.1 (by assumption) | (have := h.2; omega))], rfl⟩ | exact ⟨by rw [waterAt_t hC ⟨by omega, by omega⟩, show k = F.length by omega], rfl⟩
  ·
    first | have hb3n := kb_nt hb3 | have hb3n := kb_nf hb3 | have hb3n := hb3
    first | have hb3m := of_decide_eq_true hb3n | have hb3m := of_decide_eq_false hb3n | have hb3m := kb_eq hb3n | have hb3m := kb_ne hb3n | have hb3m := kb_bne hb3n | have hb3m := kb_nbne hb3n | have hb3m := isIx_t hb3n | have hb3m := isIx_f hb3n | have hb3m := inR_t hb3n | have hb3m := inR_f hb3n | have hb3m := dec_tt hb3n | have hb3m := dec_ff hb3n | have hb3m := hb3n
    try simp only [List.get_eq_getElem] at hb3n
    try simp only [List.get_eq_getElem] at hb3m
    try (have hC : CaveOk _ _ _ := hb3m; obtain ⟨hn1, hn6, hal, hs9, hfl, har, hsl⟩ := hC)
    try have hC : CaveOk F A S := hb3m
    try have hfk := hfl k (by omega)
    try have hak := har k (by omega)
    try have hwb := water_bd hfk hak (lv := lv) ⟨by omega, by omega⟩
    try have hbd := waterTo_bd (n := F.length) hfl har (lv := lv) ⟨by omega, by omega⟩ k (by omega)
    refine kops_gd rfl rfl rfl hb3 rfl (opv_move rfl rfl) ?_
    refine kops_gd rfl rfl rfl hb3 rfl (opv_cmp rfl rfl rfl rfl) ?_
    refine kops_d rfl rfl (opv_pick_f rfl rfl rfl hb3) ?_
    refine kops_d rfl rfl (opv_move rfl rfl) ?_
    refine kops_split 15 rfl (fun hb5 => ?_) (fun hb5 => ?_)
    ·
      first | have hb5n := kb_nt hb5 | have hb5n := kb_nf hb5 | have hb5n := hb5
      first | have hb5m := of_decide_eq_true hb5n | have hb5m := of_decide_eq_false hb5n | have hb5m := kb_eq hb5n | have hb5m := kb_ne hb5n | have hb5m := kb_bne hb5n | have hb5m := kb_nbne hb5n | have hb5m := isIx_t hb5n | have hb5m := isIx_f hb5n | have hb5m := inR_t hb5n | have hb5m := inR_f hb5n | have hb5m := dec_tt hb5n | have hb5m := dec_ff hb5n | have hb5m := hb5n
      try simp only [List.get_eq_getElem] at hb5n
      try simp only [List.get_eq_getElem] at hb5m
      try (have hC : CaveOk _ _ _ := hb5m; obtain ⟨hn1, hn6, hal, hs9, hfl, har, hsl⟩ := hC)
      try have hC : CaveOk F A S := hb5m
      try have hfk := hfl k (by omega)
      try have hak := har k (by omega)
      try have hwb := water_bd hfk hak (lv := lv) ⟨by omega, by omega⟩
      try have hbd := waterTo_bd (n := F.length) hfl har (lv := lv) ⟨by omega, by omega⟩ k (by omega)
      refine kops_skip rfl rfl rfl hb5 ?_
      refine kops_skip rfl rfl rfl hb5 ?_
      refine kops_d rfl rfl (opv_pick_t rfl rfl rfl hb5) ?_
      refine kops_nil ?_
      refine kn_then ?_
      refine kwp_cond_t rfl rfl ?_
      refine kwp_seq ?_
      refine kwp_region ?_
      refine kops_d rfl rfl (opv_assign rfl rfl) ?_
      refine kops_nil ?_
      refine kn_then ?_
      refine kwp_ret ?_
      refine kr_then ?_
      refine kret1 [] rfl rfl ?_ (by (repeat (first | exact Sub.refl _ | exact Sub.nil _ | refine Sub.chunk (by repeat (first | exact Pick.here | apply Pick.there)) (by first | rfl | (simp; done) | (congr 1; omega)) ?_)))
      first | exact ⟨by rw [waterAt_f (fun h => by first | exact absurd h.1 (by assumption) | (have := h.2; omega))], rfl⟩ | exact ⟨by rw [waterAt_t hC ⟨by omega, by omega⟩, show k = F.length by omega], rfl⟩
    ·
      first | have hb5n := kb_nt hb5 | have hb5n := kb_nf hb5 | have hb5n := hb5
      first | have hb5m := of_decide_eq_true hb5n | have hb5m := of_decide_eq_false hb5n | have hb5m := kb_eq hb5n | have hb5m := kb_ne hb5n | have hb5m := kb_bne hb5n | have hb5m := kb_nbne hb5n | have hb5m := isIx_t hb5n | have hb5m := isIx_f hb5n | have hb5m := inR_t hb5n | have hb5m := inR_f hb5n | have hb5m := dec_tt hb5n | have hb5m := dec_ff hb5n | have hb5m := hb5n
      try simp only [List.get_eq_getElem] at hb5n
      try simp only [List.get_eq_getElem] at hb5m
      try (have hC : CaveOk _ _ _ := hb5m; obtain ⟨hn1, hn6, hal, hs9, hfl, har, hsl⟩ := hC)
      try have hC : CaveOk F A S := hb5m
      try have hfk := hfl k (by omega)
      try have hak := har k (by omega)
      try have hwb := water_bd hfk hak (lv := lv) ⟨by omega, by omega⟩
      try have hbd := waterTo_bd (n := F.length) hfl har (lv := lv) ⟨by omega, by omega⟩ k (by omega)
      refine kops_gd rfl rfl rfl hb5 rfl (opv_move rfl rfl) ?_
      refine kops_gd rfl rfl rfl hb5 rfl (opv_cmp rfl rfl rfl rfl) ?_
      refine kops_d rfl rfl (opv_pick_f rfl rfl rfl hb5) ?_
      refine kops_nil ?_
      refine kn_then ?_
      refine kwp_cond rfl (fun hc7 => ?_) (fun hc7 => ?_)
      ·
        first | have hc7n := kb_nt hc7 | have hc7n := kb_nf hc7 | have hc7n := hc7
        first | have hc7m := of_decide_eq_true hc7n | have hc7m := of_decide_eq_false hc7n | have hc7m := kb_eq hc7n | have hc7m := kb_ne hc7n | have hc7m := kb_bne hc7n | have hc7m := kb_nbne hc7n | have hc7m := isIx_t hc7n | have hc7m := isIx_f hc7n | have hc7m := inR_t hc7n | have hc7m := inR_f hc7n | have hc7m := dec_tt hc7n | have hc7m := dec_ff hc7n | have hc7m := hc7n
        try simp only [List.get_eq_getElem] at hc7n
        try simp only [List.get_eq_getElem] at hc7m
        try (have hC : CaveOk _ _ _ := hc7m; obtain ⟨hn1, hn6, hal, hs9, hfl, har, hsl⟩ := hC)
        try have hC : CaveOk F A S := hc7m
        try have hfk := hfl k (by omega)
        try have hak := har k (by omega)
        try have hwb := water_bd hfk hak (lv := lv) ⟨by omega, by omega⟩
        try have hbd := waterTo_bd (n := F.length) hfl har (lv := lv) ⟨by omega, by omega⟩ k (by omega)
        refine kwp_seq ?_
        refine kwp_region ?_
        refine kops_d rfl rfl (opv_assign rfl rfl) ?_
        refine kops_nil ?_
        refine kn_then ?_
        refine kwp_ret ?_
        refine kr_then ?_
        refine kret1 [] rfl rfl ?_ (by (repeat (first | exact Sub.refl _ | exact Sub.nil _ | refine Sub.chunk (by repeat (first | exact Pick.here | apply Pick.there)) (by first | rfl | (simp; done) | (congr 1; omega)) ?_)))
        first | exact ⟨by rw [waterAt_f (fun h => by first | exact absurd h.1 (by assumption) | (have := h.2; omega))], rfl⟩ | exact ⟨by rw [waterAt_t hC ⟨by omega, by omega⟩, show k = F.length by omega], rfl⟩
      ·
        first | have hc7n := kb_nt hc7 | have hc7n := kb_nf hc7 | have hc7n := hc7
        first | have hc7m := of_decide_eq_true hc7n | have hc7m := of_decide_eq_false hc7n | have hc7m := kb_eq hc7n | have hc7m := kb_ne hc7n | have hc7m := kb_bne hc7n | have hc7m := kb_nbne hc7n | have hc7m := isIx_t hc7n | have hc7m := isIx_f hc7n | have hc7m := inR_t hc7n | have hc7m := inR_f hc7n | have hc7m := dec_tt hc7n | have hc7m := dec_ff hc7n | have hc7m := hc7n
        try simp only [List.get_eq_getElem] at hc7n
        try simp only [List.get_eq_getElem] at hc7m
        try (have hC : CaveOk _ _ _ := hc7m; obtain ⟨hn1, hn6, hal, hs9, hfl, har, hsl⟩ := hC)
        try have hC : CaveOk F A S := hc7m
        try have hfk := hfl k (by omega)
        try have hak := har k (by omega)
        try have hwb := water_bd hfk hak (lv := lv) ⟨by omega, by omega⟩
        try have hbd := waterTo_bd (n := F.length) hfl har (lv := lv) ⟨by omega, by omega⟩ k (by omega)
        refine kwp_skip ?_
        refine kn_then ?_
        refine kwp_seq ?_
        refine kwp_region ?_
        refine kops_d rfl rfl (opv_assign rfl rfl) ?_
        refine kops_nil ?_
        refine kn_then ?_
        refine kwp_seq ?_
        refine kwp_seq ?_
        refine kwp_region ?_
        refine kops_d rfl rfl (opv_fab rfl rfl fa_47_0 (by repeat (first | exact List.Mem.head _ | apply List.Mem.tail))) ?_
        refine kops_d rfl rfl (opv_load rfl rfl Try.isAgg39 (by repeat (first | exact List.Mem.head _ | apply List.Mem.tail)) (by first | rfl | exact gx_map (by omega) | exact fill_get (by omega) | (simp; done)) rfl) ?_
        refine kops_d rfl rfl (opv_len rfl rfl rfl Try.runUnderlying39) ?_
        refine kops_d rfl rfl (opv_move rfl rfl) ?_
        refine kops_nil ?_
        refine kn_then ?_
        refine kwp_block ?_
        refine kwp_loop1 (inv := [(1, _), (2, _), (4, _), (20, _), (21, _)]) (ic := [⟨.pointer (some p2), _, _⟩])
          (fun (k : Nat) => [(5, .int .i64 (waterTo F A lv k)), (22, .int .i64 k)])
          (fun (k : Nat) => [])
          (fun (k : Nat) => k ≤ F.length)
          (fun (k : Nat) => F.length - k)
          ⟨0, ⟨by first | trivial | omega | (refine ⟨?_, ?_⟩ <;> omega) | (simp; done), by (repeat (first | exact Knows.nil _ | refine Knows.cons2 rfl (by first | rfl | (simp; done) | (congr 1; omega)) ?_)), by (repeat (first | exact Sub.refl _ | exact Sub.nil _ | refine Sub.chunk (by repeat (first | exact Pick.here | apply Pick.there)) (by first | rfl | (simp; done) | (congr 1; omega)) ?_))⟩⟩ (fun k hp => ?_)
        refine kwp_seq ?_
        refine kwp_region ?_
        refine kops_d rfl rfl (opv_cmp rfl rfl rfl rfl) ?_
        refine kops_nil ?_
        refine kn_then ?_
        refine kwp_seq ?_
        refine kwp_cond rfl (fun hc9 => ?_) (fun hc9 => ?_)
        ·
          first | have hc9n := kb_nt hc9 | have hc9n := kb_nf hc9 | have hc9n := hc9
          first | have hc9m := of_decide_eq_true hc9n | have hc9m := of_decide_eq_false hc9n | have hc9m := kb_eq hc9n | have hc9m := kb_ne hc9n | have hc9m := kb_bne hc9n | have hc9m := kb_nbne hc9n | have hc9m := isIx_t hc9n | have hc9m := isIx_f hc9n | have hc9m := inR_t hc9n | have hc9m := inR_f hc9n | have hc9m := dec_tt hc9n | have hc9m := dec_ff hc9n | have hc9m := hc9n
          try simp only [List.get_eq_getElem] at hc9n
          try simp only [List.get_eq_getElem] at hc9m
          try (have hC : CaveOk _ _ _ := hc9m; obtain ⟨hn1, hn6, hal, hs9, hfl, har, hsl⟩ := hC)
          try have hC : CaveOk F A S := hc9m
          try have hfk := hfl k (by omega)
          try have hak := har k (by omega)
          try have hwb := water_bd hfk hak (lv := lv) ⟨by omega, by omega⟩
          try have hbd := waterTo_bd (n := F.length) hfl har (lv := lv) ⟨by omega, by omega⟩ k (by omega)
          refine kwp_skip ?_
          refine kn_then ?_
          refine kwp_seq ?_
          refine kwp_block ?_
          refine kwp_seq ?_
          refine kwp_region ?_
          refine kops_d rfl rfl (opv_move rfl rfl) ?_
          refine kops_d rfl rfl (opv_ia rfl rfl rfl Try.runUnderlying39 Try.sizeOf3 (by repeat (first | exact List.Mem.head _ | apply List.Mem.tail)) (by first | rfl | exact (Int.toNat_of_nonneg (by omega)).symm) (by first | omega | (simp only [List.length_map]; omega) | (rw [fill_len (by omega)]; omega) | (simp; omega) | (simp; done))) ?_
          refine kops_d rfl rfl (opv_load rfl rfl Try.isAgg3 (by repeat (first | exact List.Mem.head _ | apply List.Mem.tail)) (by first | rfl | exact gx_map (by omega) | exact fill_get (by omega) | (simp; done)) rfl) ?_
          refine kops_d rfl rfl (opv_assign rfl rfl) ?_
          refine kops_d rfl rfl (opv_assign rfl rfl) ?_
          refine kops_nil ?_
          refine kn_then ?_
          refine kwp_region ?_
          refine kops_d rfl rfl (opv_move rfl rfl) ?_
          refine kops_d rfl rfl (opv_fab rfl rfl fa_47_1 (by repeat (first | exact List.Mem.head _ | apply List.Mem.tail))) ?_
          refine kops_d rfl rfl (opv_load rfl rfl Try.isAgg39 (by repeat (first | exact List.Mem.head _ | apply List.Mem.tail)) (by first | rfl | exact gx_map (by omega) | exact fill_get (by omega) | (simp; done)) rfl) ?_
          refine kops_d rfl rfl (opv_move rfl rfl) ?_
          refine kops_d rfl rfl (opv_ia rfl rfl rfl Try.runUnderlying39 Try.sizeOf3 (by repeat (first | exact List.Mem.head _ | apply List.Mem.tail)) (by first | rfl | exact (Int.toNat_of_nonneg (by omega)).symm) (by first | omega | (simp only [List.length_map]; omega) | (rw [fill_len (by omega)]; omega) | (simp; omega) | (simp; done))) ?_
          refine kops_d rfl rfl (opv_load rfl rfl Try.isAgg3 (by repeat (first | exact List.Mem.head _ | apply List.Mem.tail)) (by first | rfl | exact gx_map (by omega) | exact fill_get (by omega) | (simp; done)) rfl) ?_
          refine kops_d rfl rfl (opv_move rfl rfl) ?_
          refine kops_d rfl rfl (opv_move rfl rfl) ?_
          refine kops_d rfl rfl (by first | exact opv_sub rfl rfl rfl ⟨by omega, by omega⟩ | exact opv_ari rfl rfl rfl rfl) ?_
          refine kops_d rfl rfl (opv_max rfl rfl rfl) ?_
          refine kops_d rfl rfl (by first | exact opv_mul rfl rfl rfl ⟨by omega, by omega⟩ | exact opv_ari rfl rfl rfl rfl) ?_
          refine kops_d rfl rfl (by first | exact opv_add rfl rfl rfl ⟨by omega, by omega⟩ | exact opv_ari rfl rfl rfl rfl) ?_
          refine kops_d rfl rfl (opv_assign rfl rfl) ?_
          refine kops_nil ?_
          refine kn_block ?_
          refine kn_then ?_
          refine kwp_region ?_
          refine kops_d rfl rfl (by first | exact opv_add rfl rfl rfl ⟨by omega, by omega⟩ | exact opv_ari rfl rfl rfl rfl) ?_
          refine kops_d rfl rfl (opv_move rfl rfl) ?_
          refine kops_nil ?_
          refine kn_then ?_
          exact ⟨k + 1, ⟨by first | trivial | omega | (refine ⟨?_, ?_⟩ <;> omega) | (simp; done), by (repeat (first | exact Knows.nil _ | refine Knows.cons2 rfl (by first | rfl | (simp; done) | (congr 1; omega)) ?_)), by (repeat (first | exact Sub.refl _ | exact Sub.nil _ | refine Sub.chunk (by repeat (first | exact Pick.here | apply Pick.there)) (by first | rfl | (simp; done) | (congr 1; omega)) ?_))⟩, by omega⟩
        ·
          first | have hc9n := kb_nt hc9 | have hc9n := kb_nf hc9 | have hc9n := hc9
          first | have hc9m := of_decide_eq_true hc9n | have hc9m := of_decide_eq_false hc9n | have hc9m := kb_eq hc9n | have hc9m := kb_ne hc9n | have hc9m := kb_bne hc9n | have hc9m := kb_nbne hc9n | have hc9m := isIx_t hc9n | have hc9m := isIx_f hc9n | have hc9m := inR_t hc9n | have hc9m := inR_f hc9n | have hc9m := dec_tt hc9n | have hc9m := dec_ff hc9n | have hc9m := hc9n
          try simp only [List.get_eq_getElem] at hc9n
          try simp only [List.get_eq_getElem] at hc9m
          try (have hC : CaveOk _ _ _ := hc9m; obtain ⟨hn1, hn6, hal, hs9, hfl, har, hsl⟩ := hC)
          try have hC : CaveOk F A S := hc9m
          try have hfk := hfl k (by omega)
          try have hak := har k (by omega)
          try have hwb := water_bd hfk hak (lv := lv) ⟨by omega, by omega⟩
          try have hbd := waterTo_bd (n := F.length) hfl har (lv := lv) ⟨by omega, by omega⟩ k (by omega)
          refine kwp_exit ?_
          refine ke_then ?_
          refine ke_then ?_
          refine ke_block ?_
          refine kn_then ?_
          refine kwp_seq ?_
          refine kwp_region ?_
          refine kops_d rfl rfl (opv_move rfl rfl) ?_
          refine kops_d rfl rfl (opv_assign rfl rfl) ?_
          refine kops_nil ?_
          refine kn_then ?_
          refine kwp_ret ?_
          refine kret1 [] rfl rfl ?_ (by (repeat (first | exact Sub.refl _ | exact Sub.nil _ | refine Sub.chunk (by repeat (first | exact Pick.here | apply Pick.there)) (by first | rfl | (simp; done) | (congr 1; omega)) ?_)))
          first | exact ⟨by rw [waterAt_f (fun h => by first | exact absurd h.1 (by assumption) | (have := h.2; omega))], rfl⟩ | exact ⟨by rw [waterAt_t hC ⟨by omega, by omega⟩, show k = F.length by omega], rfl⟩

set_option maxRecDepth 20000 in
theorem c_spec_WaterAt (af aa al : Option Addr) (nf cf na ca ns cs : Nat) (F A : List Int) (S : List Sill) (lv : Int) (hb : nf ≤ 9223372036854775807 ∧ na ≤ 9223372036854775807 ∧ ns ≤ 9223372036854775807) :
    Triple Try.prog 36 [.agg #[.slice af nf cf, .slice aa na ca, .slice al ns cs], .int .i64 lv] [⟨.slice af nf cf, 1, F.map encI⟩, ⟨.slice aa na ca, 1, A.map encI⟩, ⟨.slice al ns cs, 3, S.map encSill⟩] [] (fun r ch => r = .int .i64 (waterAt F A S lv) ∧ ch = []) := by
  refine triple_start 39 Try.func36 Try.ntmps36 rfl rfl (fun w0 => ?_)
  refine kwp_len (List.Mem.head _) (fun hnf => ?_)
  refine kwp_len (List.Mem.tail _ (List.Mem.head _)) (fun hna => ?_)
  refine kwp_len (List.Mem.tail _ (List.Mem.tail _ (List.Mem.head _))) (fun hns => ?_)
  simp only [List.length_map] at hnf hna hns
  subst hnf hna hns
  refine kwp_seq ?_
  refine kwp_region ?_
  refine kops_step rfl (opk_box' (e := [_, _, _]) 3 rfl rfl rfl rfl (by decide) (fun p2 => ?_))
  refine kops_d rfl rfl (opv_assign rfl rfl) ?_
  refine kops_nil ?_
  refine kn_then ?_
  refine kwp_seq ?_
  refine kwp_seq ?_
  refine kwp_region ?_
  refine kops_d rfl rfl (opv_load_box rfl rfl Try.isAgg47 Try.sizeOf47 (by repeat (first | exact List.Mem.head _ | apply List.Mem.tail))) ?_
  refine kops_step rfl (opk_call rfl Try.call24 rfl (c_spec_CaveValid _ _ _ _ _ _ _ _ _ _ _ _  ⟨by omega, by omega, by omega⟩) ((perm_nil _)) (Views.cons (by repeat (first | exact List.Mem.head _ | apply List.Mem.tail)) (View.refl _) (Views.cons (by repeat (first | exact List.Mem.head _ | apply List.Mem.tail)) (View.refl _) (Views.cons (by repeat (first | exact List.Mem.head _ | apply List.Mem.tail)) (View.refl _) ((Views.nil _))))) ?_)
  rintro _ _ ⟨rfl, rfl⟩
  refine kops_d rfl rfl (opv_not rfl rfl) ?_
  refine kops_d rfl rfl (opv_move rfl rfl) ?_
  refine kops_split 10 rfl (fun hb3 => ?_) (fun hb3 => ?_)
  ·
    first | have hb3n := kb_nt hb3 | have hb3n := kb_nf hb3 | have hb3n := hb3
    first | have hb3m := of_decide_eq_true hb3n | have hb3m := of_decide_eq_false hb3n | have hb3m := kb_eq hb3n | have hb3m := kb_ne hb3n | have hb3m := kb_bne hb3n | have hb3m := kb_nbne hb3n | have hb3m := isIx_t hb3n | have hb3m := isIx_f hb3n | have hb3m := inR_t hb3n | have hb3m := inR_f hb3n | have hb3m := dec_tt hb3n | have hb3m := dec_ff hb3n | have hb3m := hb3n
    try simp only [List.get_eq_getElem] at hb3n
    try simp only [List.get_eq_getElem] at hb3m
    try (have hC : CaveOk _ _ _ := hb3m; obtain ⟨hn1, hn6, hal, hs9, hfl, har, hsl⟩ := hC)
    try have hC : CaveOk F A S := hb3m
    try have hfk := hfl k (by omega)
    try have hak := har k (by omega)
    try have hwb := water_bd hfk hak (lv := lv) ⟨by omega, by omega⟩
    try have hbd := waterTo_bd (n := F.length) hfl har (lv := lv) ⟨by omega, by omega⟩ k (by omega)
    refine kops_skip rfl rfl rfl hb3 ?_
    refine kops_skip rfl rfl rfl hb3 ?_
    refine kops_skip rfl rfl rfl hb3 ?_
    refine kops_d rfl rfl (opv_pick_t rfl rfl rfl hb3) ?_
    refine kops_nil ?_
    refine kn_then ?_
    refine kwp_cond_t rfl rfl ?_
    refine kwp_seq ?_
    refine kwp_region ?_
    refine kops_d rfl rfl (opv_assign rfl rfl) ?_
    refine kops_nil ?_
    refine kn_then ?_
    refine kwp_ret ?_
    refine kr_then ?_
    refine kret1 [] rfl rfl ?_ (by (repeat (first | exact Sub.refl _ | exact Sub.nil _ | refine Sub.chunk (by repeat (first | exact Pick.here | apply Pick.there)) (by first | rfl | (simp; done) | (congr 1; omega)) ?_)))
    first | exact ⟨by rw [waterAt_f (fun h => by first | exact absurd h.1 (by assumption) | (have := h.2; omega))], rfl⟩ | exact ⟨by rw [waterAt_t hC ⟨by omega, by omega⟩, show k = F.length by omega], rfl⟩
  ·
    first | have hb3n := kb_nt hb3 | have hb3n := kb_nf hb3 | have hb3n := hb3
    first | have hb3m := of_decide_eq_true hb3n | have hb3m := of_decide_eq_false hb3n | have hb3m := kb_eq hb3n | have hb3m := kb_ne hb3n | have hb3m := kb_bne hb3n | have hb3m := kb_nbne hb3n | have hb3m := isIx_t hb3n | have hb3m := isIx_f hb3n | have hb3m := inR_t hb3n | have hb3m := inR_f hb3n | have hb3m := dec_tt hb3n | have hb3m := dec_ff hb3n | have hb3m := hb3n
    try simp only [List.get_eq_getElem] at hb3n
    try simp only [List.get_eq_getElem] at hb3m
    try (have hC : CaveOk _ _ _ := hb3m; obtain ⟨hn1, hn6, hal, hs9, hfl, har, hsl⟩ := hC)
    try have hC : CaveOk F A S := hb3m
    try have hfk := hfl k (by omega)
    try have hak := har k (by omega)
    try have hwb := water_bd hfk hak (lv := lv) ⟨by omega, by omega⟩
    try have hbd := waterTo_bd (n := F.length) hfl har (lv := lv) ⟨by omega, by omega⟩ k (by omega)
    refine kops_gd rfl rfl rfl hb3 rfl (opv_move rfl rfl) ?_
    refine kops_gk rfl rfl rfl hb3 (opk_call rfl Try.call56 rfl (c_spec_l1In _ _ _) ((perm_nil _)) ((Views.nil _)) ?_)
    rintro _ _ ⟨rfl, rfl⟩
    refine kops_gd rfl rfl rfl hb3 rfl (opv_not rfl rfl) ?_
    refine kops_d rfl rfl (opv_pick_f rfl rfl rfl hb3) ?_
    refine kops_nil ?_
    refine kn_then ?_
    refine kwp_cond rfl (fun hc6 => ?_) (fun hc6 => ?_)
    ·
      first | have hc6n := kb_nt hc6 | have hc6n := kb_nf hc6 | have hc6n := hc6
      first | have hc6m := of_decide_eq_true hc6n | have hc6m := of_decide_eq_false hc6n | have hc6m := kb_eq hc6n | have hc6m := kb_ne hc6n | have hc6m := kb_bne hc6n | have hc6m := kb_nbne hc6n | have hc6m := isIx_t hc6n | have hc6m := isIx_f hc6n | have hc6m := inR_t hc6n | have hc6m := inR_f hc6n | have hc6m := dec_tt hc6n | have hc6m := dec_ff hc6n | have hc6m := hc6n
      try simp only [List.get_eq_getElem] at hc6n
      try simp only [List.get_eq_getElem] at hc6m
      try (have hC : CaveOk _ _ _ := hc6m; obtain ⟨hn1, hn6, hal, hs9, hfl, har, hsl⟩ := hC)
      try have hC : CaveOk F A S := hc6m
      try have hfk := hfl k (by omega)
      try have hak := har k (by omega)
      try have hwb := water_bd hfk hak (lv := lv) ⟨by omega, by omega⟩
      try have hbd := waterTo_bd (n := F.length) hfl har (lv := lv) ⟨by omega, by omega⟩ k (by omega)
      refine kwp_seq ?_
      refine kwp_region ?_
      refine kops_d rfl rfl (opv_assign rfl rfl) ?_
      refine kops_nil ?_
      refine kn_then ?_
      refine kwp_ret ?_
      refine kr_then ?_
      refine kret1 [] rfl rfl ?_ (by (repeat (first | exact Sub.refl _ | exact Sub.nil _ | refine Sub.chunk (by repeat (first | exact Pick.here | apply Pick.there)) (by first | rfl | (simp; done) | (congr 1; omega)) ?_)))
      first | exact ⟨by rw [waterAt_f (fun h => by first | exact absurd h.1 (by assumption) | (have := h.2; omega))], rfl⟩ | exact ⟨by rw [waterAt_t hC ⟨by omega, by omega⟩, show k = F.length by omega], rfl⟩
    ·
      first | have hc6n := kb_nt hc6 | have hc6n := kb_nf hc6 | have hc6n := hc6
      first | have hc6m := of_decide_eq_true hc6n | have hc6m := of_decide_eq_false hc6n | have hc6m := kb_eq hc6n | have hc6m := kb_ne hc6n | have hc6m := kb_bne hc6n | have hc6m := kb_nbne hc6n | have hc6m := isIx_t hc6n | have hc6m := isIx_f hc6n | have hc6m := inR_t hc6n | have hc6m := inR_f hc6n | have hc6m := dec_tt hc6n | have hc6m := dec_ff hc6n | have hc6m := hc6n
      try simp only [List.get_eq_getElem] at hc6n
      try simp only [List.get_eq_getElem] at hc6m
      try (have hC : CaveOk _ _ _ := hc6m; obtain ⟨hn1, hn6, hal, hs9, hfl, har, hsl⟩ := hC)
      try have hC : CaveOk F A S := hc6m
      try have hfk := hfl k (by omega)
      try have hak := har k (by omega)
      try have hwb := water_bd hfk hak (lv := lv) ⟨by omega, by omega⟩
      try have hbd := waterTo_bd (n := F.length) hfl har (lv := lv) ⟨by omega, by omega⟩ k (by omega)
      refine kwp_skip ?_
      refine kn_then ?_
      refine kwp_seq ?_
      refine kwp_region ?_
      refine kops_d rfl rfl (opv_assign rfl rfl) ?_
      refine kops_nil ?_
      refine kn_then ?_
      refine kwp_seq ?_
      refine kwp_seq ?_
      refine kwp_region ?_
      refine kops_d rfl rfl (opv_assign rfl rfl) ?_
      refine kops_nil ?_
      refine kn_then ?_
      refine kwp_block ?_
      refine kwp_loop1 (inv := [(1, _), (2, _), (4, _)]) (ic := [⟨.pointer (some p2), _, _⟩])
        (fun (k : Nat) => [(5, .int .i64 (waterTo F A lv k)), (6, .int .i64 k)])
        (fun (k : Nat) => [])
        (fun (k : Nat) => k ≤ F.length)
        (fun (k : Nat) => F.length - k)
        ⟨0, ⟨by first | trivial | omega | (refine ⟨?_, ?_⟩ <;> omega) | (simp; done), by (repeat (first | exact Knows.nil _ | refine Knows.cons2 rfl (by first | rfl | (simp; done) | (congr 1; omega)) ?_)), by (repeat (first | exact Sub.refl _ | exact Sub.nil _ | refine Sub.chunk (by repeat (first | exact Pick.here | apply Pick.there)) (by first | rfl | (simp; done) | (congr 1; omega)) ?_))⟩⟩ (fun k hp => ?_)
      refine kwp_seq ?_
      refine kwp_seq ?_
      refine kwp_region ?_
      refine kops_d rfl rfl (opv_move rfl rfl) ?_
      refine kops_d rfl rfl (opv_fab rfl rfl fa_47_0 (by repeat (first | exact List.Mem.head _ | apply List.Mem.tail))) ?_
      refine kops_d rfl rfl (opv_load rfl rfl Try.isAgg39 (by repeat (first | exact List.Mem.head _ | apply List.Mem.tail)) (by first | rfl | exact gx_map (by omega) | exact fill_get (by omega) | (simp; done)) rfl) ?_
      refine kops_d rfl rfl (opv_len rfl rfl rfl Try.runUnderlying39) ?_
      refine kops_d rfl rfl (opv_cmp rfl rfl rfl rfl) ?_
      refine kops_nil ?_
      refine kn_then ?_
      refine kwp_cond rfl (fun hc8 => ?_) (fun hc8 => ?_)
      ·
        first | have hc8n := kb_nt hc8 | have hc8n := kb_nf hc8 | have hc8n := hc8
        first | have hc8m := of_decide_eq_true hc8n | have hc8m := of_decide_eq_false hc8n | have hc8m := kb_eq hc8n | have hc8m := kb_ne hc8n | have hc8m := kb_bne hc8n | have hc8m := kb_nbne hc8n | have hc8m := isIx_t hc8n | have hc8m := isIx_f hc8n | have hc8m := inR_t hc8n | have hc8m := inR_f hc8n | have hc8m := dec_tt hc8n | have hc8m := dec_ff hc8n | have hc8m := hc8n
        try simp only [List.get_eq_getElem] at hc8n
        try simp only [List.get_eq_getElem] at hc8m
        try (have hC : CaveOk _ _ _ := hc8m; obtain ⟨hn1, hn6, hal, hs9, hfl, har, hsl⟩ := hC)
        try have hC : CaveOk F A S := hc8m
        try have hfk := hfl k (by omega)
        try have hak := har k (by omega)
        try have hwb := water_bd hfk hak (lv := lv) ⟨by omega, by omega⟩
        try have hbd := waterTo_bd (n := F.length) hfl har (lv := lv) ⟨by omega, by omega⟩ k (by omega)
        refine kwp_skip ?_
        refine kn_then ?_
        refine kwp_seq ?_
        refine kwp_block ?_
        refine kwp_draw [(0, true), (1, true), (2, true), (3, true), (4, true), (5, true), (6, true), (7, true), (8, true), (9, true), (10, true), (11, true), (12, true), (13, true), (14, true), (15, true), (16, true)] [] _ drawMixed (by kernel_rfl) (fun _ _ _ h => h) (Sub.refl _) ?_
        refine ks_d rfl rfl rfl (opv_move rfl rfl) ?_
        refine ks_d rfl rfl rfl (opv_fab rfl rfl fa_47_1 (by repeat (first | exact List.Mem.head _ | apply List.Mem.tail))) ?_
        refine ks_d rfl rfl rfl (opv_load rfl rfl Try.isAgg39 (by repeat (first | exact List.Mem.head _ | apply List.Mem.tail)) (by first | rfl | exact gx_map (by omega) | exact fill_get (by omega) | (simp; done)) rfl) ?_
        refine ks_d rfl rfl rfl (opv_move rfl rfl) ?_
        refine ks_d rfl rfl rfl (opv_ia rfl rfl rfl Try.runUnderlying39 Try.sizeOf3 (by repeat (first | exact List.Mem.head _ | apply List.Mem.tail)) (by first | rfl | exact (Int.toNat_of_nonneg (by omega)).symm) (by first | omega | (simp only [List.length_map]; omega) | (rw [fill_len (by omega)]; omega) | (simp; omega) | (simp; done))) ?_
        refine ks_d rfl rfl rfl (opv_load rfl rfl Try.isAgg3 (by repeat (first | exact List.Mem.head _ | apply List.Mem.tail)) (by first | rfl | exact gx_map (by omega) | exact fill_get (by omega) | (simp; done)) rfl) ?_
        refine ks_d rfl rfl rfl (opv_move rfl rfl) ?_
        refine ks_d rfl rfl rfl (opv_fab rfl rfl fa_47_0 (by repeat (first | exact List.Mem.head _ | apply List.Mem.tail))) ?_
        refine ks_d rfl rfl rfl (opv_load rfl rfl Try.isAgg39 (by repeat (first | exact List.Mem.head _ | apply List.Mem.tail)) (by first | rfl | exact gx_map (by omega) | exact fill_get (by omega) | (simp; done)) rfl) ?_
        refine ks_d rfl rfl rfl (opv_move rfl rfl) ?_
        refine ks_d rfl rfl rfl (opv_ia rfl rfl rfl Try.runUnderlying39 Try.sizeOf3 (by repeat (first | exact List.Mem.head _ | apply List.Mem.tail)) (by first | rfl | exact (Int.toNat_of_nonneg (by omega)).symm) (by first | omega | (simp only [List.length_map]; omega) | (rw [fill_len (by omega)]; omega) | (simp; omega) | (simp; done))) ?_
        refine ks_d rfl rfl rfl (opv_load rfl rfl Try.isAgg3 (by repeat (first | exact List.Mem.head _ | apply List.Mem.tail)) (by first | rfl | exact gx_map (by omega) | exact fill_get (by omega) | (simp; done)) rfl) ?_
        refine ks_d rfl rfl rfl (by first | exact opv_sub rfl rfl rfl ⟨by omega, by omega⟩ | exact opv_ari rfl rfl rfl rfl) ?_
        refine ks_d rfl rfl rfl (opv_max rfl rfl rfl) ?_
        refine ks_d rfl rfl rfl (by first | exact opv_mul rfl rfl rfl ⟨by omega, by omega⟩ | exact opv_ari rfl rfl rfl rfl) ?_
        refine ks_d rfl rfl rfl (by first | exact opv_add rfl rfl rfl ⟨by omega, by omega⟩ | exact opv_ari rfl rfl rfl rfl) ?_
        refine ks_d rfl rfl rfl (opv_assign rfl rfl) ?_
        refine ks_nil ?_
        refine kn_block ?_
        refine kn_then ?_
        refine kwp_region ?_
        refine kops_d rfl rfl (opv_move rfl rfl) ?_
        refine kops_d rfl rfl (by first | exact opv_add rfl rfl rfl ⟨by omega, by omega⟩ | exact opv_ari rfl rfl rfl rfl) ?_
        refine kops_d rfl rfl (opv_assign rfl rfl) ?_
        refine kops_nil ?_
        refine kn_then ?_
        exact ⟨k + 1, ⟨by first | trivial | omega | (refine ⟨?_, ?_⟩ <;> omega) | (simp; done), by (repeat (first | exact Knows.nil _ | refine Knows.cons2 rfl (by first | rfl | (simp; done) | (congr 1; omega)) ?_)), by (repeat (first | exact Sub.refl _ | exact Sub.nil _ | refine Sub.chunk (by repeat (first | exact Pick.here | apply Pick.there)) (by first | rfl | (simp; done) | (congr 1; omega)) ?_))⟩, by omega⟩
      ·
        first | have hc8n := kb_nt hc8 | have hc8n := kb_nf hc8 | have hc8n := hc8
        first | have hc8m := of_decide_eq_true hc8n | have hc8m := of_decide_eq_false hc8n | have hc8m := kb_eq hc8n | have hc8m := kb_ne hc8n | have hc8m := kb_bne hc8n | have hc8m := kb_nbne hc8n | have hc8m := isIx_t hc8n | have hc8m := isIx_f hc8n | have hc8m := inR_t hc8n | have hc8m := inR_f hc8n | have hc8m := dec_tt hc8n | have hc8m := dec_ff hc8n | have hc8m := hc8n
        try simp only [List.get_eq_getElem] at hc8n
        try simp only [List.get_eq_getElem] at hc8m
        try (have hC : CaveOk _ _ _ := hc8m; obtain ⟨hn1, hn6, hal, hs9, hfl, har, hsl⟩ := hC)
        try have hC : CaveOk F A S := hc8m
        try have hfk := hfl k (by omega)
        try have hak := har k (by omega)
        try have hwb := water_bd hfk hak (lv := lv) ⟨by omega, by omega⟩
        try have hbd := waterTo_bd (n := F.length) hfl har (lv := lv) ⟨by omega, by omega⟩ k (by omega)
        refine kwp_exit ?_
        refine ke_then ?_
        refine ke_then ?_
        refine ke_block ?_
        refine kn_then ?_
        refine kwp_seq ?_
        refine kwp_region ?_
        refine kops_d rfl rfl (opv_move rfl rfl) ?_
        refine kops_d rfl rfl (opv_assign rfl rfl) ?_
        refine kops_nil ?_
        refine kn_then ?_
        refine kwp_ret ?_
        refine kret1 [] rfl rfl ?_ (by (repeat (first | exact Sub.refl _ | exact Sub.nil _ | refine Sub.chunk (by repeat (first | exact Pick.here | apply Pick.there)) (by first | rfl | (simp; done) | (congr 1; omega)) ?_)))
        first | exact ⟨by rw [waterAt_f (fun h => by first | exact absurd h.1 (by assumption) | (have := h.2; omega))], rfl⟩ | exact ⟨by rw [waterAt_t hC ⟨by omega, by omega⟩, show k = F.length by omega], rfl⟩

set_option maxRecDepth 20000 in
theorem c_laws_FnExactWaterAt (af aa al : Option Addr) (nf cf na ca ns cs : Nat) (F A : List Int) (S : List Sill) (lv : Int) (hb : nf ≤ 9223372036854775807 ∧ na ≤ 9223372036854775807 ∧ ns ≤ 9223372036854775807) :
    Triple Try.prog 8 [.agg #[.slice af nf cf, .slice aa na ca, .slice al ns cs], .int .i64 lv] [⟨.slice af nf cf, 1, F.map encI⟩, ⟨.slice aa na ca, 1, A.map encI⟩, ⟨.slice al ns cs, 3, S.map encSill⟩] [] (fun r ch => r = .bool true ∧ ch = []) := by
  refine triple_start 31 Try.func8 Try.ntmps8 rfl rfl (fun w0 => ?_)
  refine kwp_len (List.Mem.head _) (fun hnf => ?_)
  refine kwp_len (List.Mem.tail _ (List.Mem.head _)) (fun hna => ?_)
  refine kwp_len (List.Mem.tail _ (List.Mem.tail _ (List.Mem.head _))) (fun hns => ?_)
  simp only [List.length_map] at hnf hna hns
  subst hnf hna hns
  refine kwp_seq ?_
  refine kwp_region ?_
  refine kops_step rfl (opk_box' (e := [_, _, _]) 3 rfl rfl rfl rfl (by decide) (fun p2 => ?_))
  refine kops_d rfl rfl (opv_assign rfl rfl) ?_
  refine kops_nil ?_
  refine kn_then ?_
  refine kwp_seq ?_
  refine kwp_region ?_
  refine kops_d rfl rfl (opv_assign rfl rfl) ?_
  refine kops_nil ?_
  refine kn_then ?_
  refine kwp_seq ?_
  refine kwp_region ?_
  refine kops_d rfl rfl (opv_load_box rfl rfl Try.isAgg42 Try.sizeOf42 (by repeat (first | exact List.Mem.head _ | apply List.Mem.tail))) ?_
  refine kops_d rfl rfl (opv_move rfl rfl) ?_
  refine kops_step rfl (opk_call rfl Try.call23 rfl (c_laws_szCave _ _ _ _ _ _ _ _ _ _ ⟨by omega, by omega⟩ ⟨by omega, by omega, by omega⟩) ((perm_nil _)) ((Views.nil _)) ?_)
  rintro _ _ ⟨x11, rfl, hl11, hg11, hx11, rfl⟩
  refine kops_d rfl rfl (opv_assign rfl rfl) ?_
  refine kops_nil ?_
  refine kn_then ?_
  refine kwp_seq ?_
  refine kwp_seq ?_
  refine kwp_region ?_
  refine kops_d rfl rfl (opv_move rfl rfl) ?_
  refine kops_d rfl rfl (opv_cmp rfl rfl rfl rfl) ?_
  refine kops_nil ?_
  refine kn_then ?_
  refine kwp_cond rfl (fun hc2 => ?_) (fun hc2 => ?_)
  ·
    first | have hc2n := kb_nt hc2 | have hc2n := kb_nf hc2 | have hc2n := hc2
    first | have hc2m := of_decide_eq_true hc2n | have hc2m := of_decide_eq_false hc2n | have hc2m := kb_eq hc2n | have hc2m := kb_ne hc2n | have hc2m := kb_bne hc2n | have hc2m := kb_nbne hc2n | have hc2m := isIx_t hc2n | have hc2m := isIx_f hc2n | have hc2m := inR_t hc2n | have hc2m := inR_f hc2n | have hc2m := dec_tt hc2n | have hc2m := dec_ff hc2n | have hc2m := hc2n
    try simp only [List.get_eq_getElem] at hc2n
    try simp only [List.get_eq_getElem] at hc2m
    try (exfalso; simp_all; done; done)
    all_goals
      refine kwp_seq ?_
      refine kwp_region ?_
      refine kops_d rfl rfl (opv_assign rfl rfl) ?_
      refine kops_nil ?_
      refine kn_then ?_
      refine kwp_ret ?_
      refine kr_then ?_
      refine kret1 [] rfl rfl ?_ (by (repeat (first | exact Sub.refl _ | exact Sub.nil _ | refine Sub.chunk (by repeat (first | exact Pick.here | apply Pick.there)) (by first | rfl | (simp; done) | (congr 1; omega)) ?_)))
      exact ⟨rfl, rfl⟩
  ·
    first | have hc2n := kb_nt hc2 | have hc2n := kb_nf hc2 | have hc2n := hc2
    first | have hc2m := of_decide_eq_true hc2n | have hc2m := of_decide_eq_false hc2n | have hc2m := kb_eq hc2n | have hc2m := kb_ne hc2n | have hc2m := kb_bne hc2n | have hc2m := kb_nbne hc2n | have hc2m := isIx_t hc2n | have hc2m := isIx_f hc2n | have hc2m := inR_t hc2n | have hc2m := inR_f hc2n | have hc2m := dec_tt hc2n | have hc2m := dec_ff hc2n | have hc2m := hc2n
    try simp only [List.get_eq_getElem] at hc2n
    try simp only [List.get_eq_getElem] at hc2m
    try (exfalso; simp_all; done; done)
    all_goals
      refine kwp_skip ?_
      refine kn_then ?_
      refine kwp_seq ?_
      refine kwp_region ?_
      refine kops_d rfl rfl (opv_load_box rfl rfl Try.isAgg42 Try.sizeOf42 (by repeat (first | exact List.Mem.head _ | apply List.Mem.tail))) ?_
      refine kops_step rfl (opk_call rfl Try.call25 rfl (c_laws_toCave _ _ _ _ _ _ _ _ _ _ _ _  ⟨by omega, by omega, by omega⟩) ((perm_nil _)) (Views.cons (by repeat (first | exact List.Mem.head _ | apply List.Mem.tail)) (View.refl _) (Views.cons (by repeat (first | exact List.Mem.head _ | apply List.Mem.tail)) (View.refl _) (Views.cons (by repeat (first | exact List.Mem.head _ | apply List.Mem.tail)) (View.refl _) ((Views.nil _))))) ?_)
      rintro _ _ ⟨a15_1, c15_1, a15_2, c15_2, a15_3, c15_3, rfl, rfl⟩
      refine kops_d rfl rfl (opv_move rfl rfl) ?_
      refine kops_step rfl (opk_call rfl Try.call36 rfl (c_spec_WaterAt _ _ _ _ _ _ _ _ _ _ _ _  _ ⟨by omega, by omega, by omega⟩) ((perm_nil _)) (Views.cons (by repeat (first | exact List.Mem.head _ | apply List.Mem.tail)) (View.refl _) (Views.cons (by repeat (first | exact List.Mem.head _ | apply List.Mem.tail)) (View.refl _) (Views.cons (by repeat (first | exact List.Mem.head _ | apply List.Mem.tail)) (View.refl _) ((Views.nil _))))) ?_)
      rintro _ _ ⟨rfl, rfl⟩
      refine kops_d rfl rfl (opv_assign rfl rfl) ?_
      refine kops_nil ?_
      refine kn_then ?_
      refine kwp_seq ?_
      refine kwp_region ?_
      refine kops_d rfl rfl (opv_load_box rfl rfl Try.isAgg42 Try.sizeOf42 (by repeat (first | exact List.Mem.head _ | apply List.Mem.tail))) ?_
      refine kops_step rfl (opk_call rfl Try.call25 rfl (c_laws_toCave _ _ _ _ _ _ _ _ _ _ _ _  ⟨by omega, by omega, by omega⟩) ((perm_nil _)) (Views.cons (by repeat (first | exact List.Mem.head _ | apply List.Mem.tail)) (View.refl _) (Views.cons (by repeat (first | exact List.Mem.head _ | apply List.Mem.tail)) (View.refl _) (Views.cons (by repeat (first | exact List.Mem.head _ | apply List.Mem.tail)) (View.refl _) ((Views.nil _))))) ?_)
      rintro _ _ ⟨a19_1, c19_1, a19_2, c19_2, a19_3, c19_3, rfl, rfl⟩
      refine kops_step rfl (opk_alloc' (e := [_, _, _]) 3 rfl Try.zeroValue47 rfl rfl (by decide) (fun p7 => ?_))
      refine kops_step rfl (opk_store_box (e' := [_, _, _]) rfl rfl rfl Try.sizeOf47 rfl (by first | exact one_aw | exact one_int | exact one_sill | decide | (simp [Value.oneCell']; done) | (intro x hx; simp at hx; rcases hx with rfl | rfl | rfl | rfl | rfl <;> rfl)) rfl (by repeat (first | exact Upd.here | apply Upd.there)) ?_)
      refine kops_nil ?_
      refine kn_then ?_
      refine kwp_seq ?_
      refine kwp_region ?_
      refine kops_d rfl rfl (opv_load_box rfl rfl Try.isAgg47 Try.sizeOf47 (by repeat (first | exact List.Mem.head _ | apply List.Mem.tail))) ?_
      refine kops_d rfl rfl (opv_move rfl rfl) ?_
      refine kops_step rfl (opk_call rfl Try.call37 rfl (c_impl_WaterAt _ _ _ _ _ _ _ _ _ _ _ _  _ ⟨by omega, by omega, by omega⟩) ((perm_nil _)) (Views.cons (by repeat (first | exact List.Mem.head _ | apply List.Mem.tail)) (View.refl _) (Views.cons (by repeat (first | exact List.Mem.head _ | apply List.Mem.tail)) (View.refl _) (Views.cons (by repeat (first | exact List.Mem.head _ | apply List.Mem.tail)) (View.refl _) ((Views.nil _))))) ?_)
      rintro _ _ ⟨rfl, rfl⟩
      refine kops_d rfl rfl (opv_assign rfl rfl) ?_
      refine kops_nil ?_
      refine kn_then ?_
      refine kwp_seq ?_
      refine kwp_seq ?_
      refine kwp_region ?_
      refine kops_d rfl rfl (opv_move rfl rfl) ?_
      refine kops_d rfl rfl (opv_move rfl rfl) ?_
      refine kops_d rfl rfl (opv_cmp rfl rfl rfl rfl) ?_
      refine kops_nil ?_
      refine kn_then ?_
      refine kwp_cond rfl (fun hc4 => ?_) (fun hc4 => ?_)
      ·
        first | have hc4n := kb_nt hc4 | have hc4n := kb_nf hc4 | have hc4n := hc4
        first | have hc4m := of_decide_eq_true hc4n | have hc4m := of_decide_eq_false hc4n | have hc4m := kb_eq hc4n | have hc4m := kb_ne hc4n | have hc4m := kb_bne hc4n | have hc4m := kb_nbne hc4n | have hc4m := isIx_t hc4n | have hc4m := isIx_f hc4n | have hc4m := inR_t hc4n | have hc4m := inR_f hc4n | have hc4m := dec_tt hc4n | have hc4m := dec_ff hc4n | have hc4m := hc4n
        try simp only [List.get_eq_getElem] at hc4n
        try simp only [List.get_eq_getElem] at hc4m
        try (exfalso; simp_all; done; done)
        all_goals
          refine kwp_seq ?_
          refine kwp_region ?_
          refine kops_d rfl rfl (opv_assign rfl rfl) ?_
          refine kops_nil ?_
          refine kn_then ?_
          refine kwp_ret ?_
          refine kr_then ?_
          refine kret1 [] rfl rfl ?_ (by (repeat (first | exact Sub.refl _ | exact Sub.nil _ | refine Sub.chunk (by repeat (first | exact Pick.here | apply Pick.there)) (by first | rfl | (simp; done) | (congr 1; omega)) ?_)))
          exact ⟨rfl, rfl⟩
      ·
        first | have hc4n := kb_nt hc4 | have hc4n := kb_nf hc4 | have hc4n := hc4
        first | have hc4m := of_decide_eq_true hc4n | have hc4m := of_decide_eq_false hc4n | have hc4m := kb_eq hc4n | have hc4m := kb_ne hc4n | have hc4m := kb_bne hc4n | have hc4m := kb_nbne hc4n | have hc4m := isIx_t hc4n | have hc4m := isIx_f hc4n | have hc4m := inR_t hc4n | have hc4m := inR_f hc4n | have hc4m := dec_tt hc4n | have hc4m := dec_ff hc4n | have hc4m := hc4n
        try simp only [List.get_eq_getElem] at hc4n
        try simp only [List.get_eq_getElem] at hc4m
        try (exfalso; simp_all; done; done)
        all_goals
          refine kwp_skip ?_
          refine kn_then ?_
          refine kwp_seq ?_
          refine kwp_seq ?_
          refine kwp_draw [(0, true), (1, true), (2, false), (3, false), (4, true)] [] _ drawMixed (by kernel_rfl) (fun _ _ _ h => h) (Sub.refl _) ?_
          refine ks_d rfl rfl rfl (opv_load_box rfl rfl Try.isAgg47 Try.sizeOf47 (by repeat (first | exact List.Mem.head _ | apply List.Mem.tail))) ?_
          refine ks_d rfl rfl rfl (opv_load_box rfl rfl Try.isAgg42 Try.sizeOf42 (by repeat (first | exact List.Mem.head _ | apply List.Mem.tail))) ?_
          refine ks_k rfl rfl (opk_call rfl Try.call25 rfl (c_laws_toCave _ _ _ _ _ _ _ _ _ _ _ _  ⟨by omega, by omega, by omega⟩) ((perm_nil _)) (Views.cons (by repeat (first | exact List.Mem.head _ | apply List.Mem.tail)) (View.refl _) (Views.cons (by repeat (first | exact List.Mem.head _ | apply List.Mem.tail)) (View.refl _) (Views.cons (by repeat (first | exact List.Mem.head _ | apply List.Mem.tail)) (View.refl _) ((Views.nil _))))) ?_)
          rintro _ _ ⟨a28_1, c28_1, a28_2, c28_2, a28_3, c28_3, rfl, rfl⟩
          refine ⟨.inl (by (repeat (first | exact Sub.refl _ | exact Sub.nil _ | refine Sub.chunk (by repeat (first | exact Pick.here | apply Pick.there)) (by first | rfl | (simp; done) | (congr 1; omega)) ?_))), ?_⟩
          refine ks_k rfl rfl (opk_call rfl Try.call27 rfl (c_laws_eqCave _ _ _ _ _ _ _ _ _ _ _ _  _ _ _ _ _ _ _ _ _ _ _ _  ⟨by omega, by omega, by omega⟩ ⟨by omega, by omega, by omega⟩) ((perm_nil _)) (Views.cons (by repeat (first | exact List.Mem.head _ | apply List.Mem.tail)) (View.refl _) (Views.cons (by repeat (first | exact List.Mem.head _ | apply List.Mem.tail)) (View.refl _) (Views.cons (by repeat (first | exact List.Mem.head _ | apply List.Mem.tail)) (View.refl _) (Views.cons (by repeat (first | exact List.Mem.head _ | apply List.Mem.tail)) (View.refl _) (Views.cons (by repeat (first | exact List.Mem.head _ | apply List.Mem.tail)) (View.refl _) (Views.cons (by repeat (first | exact List.Mem.head _ | apply List.Mem.tail)) (View.refl _) ((Views.nil _)))))))) ?_)
          rintro _ _ ⟨rfl, rfl⟩
          refine ⟨.inl (by (repeat (first | exact Sub.refl _ | exact Sub.nil _ | refine Sub.chunk (by repeat (first | exact Pick.here | apply Pick.there)) (by first | rfl | (simp; done) | (congr 1; omega)) ?_))), ?_⟩
          refine ks_d rfl rfl rfl (opv_not rfl rfl) ?_
          refine ks_nil ?_
          refine kn_then ?_
          refine kwp_cond rfl (fun hc7 => ?_) (fun hc7 => ?_)
          ·
            first | have hc7n := kb_nt hc7 | have hc7n := kb_nf hc7 | have hc7n := hc7
            first | have hc7m := of_decide_eq_true hc7n | have hc7m := of_decide_eq_false hc7n | have hc7m := kb_eq hc7n | have hc7m := kb_ne hc7n | have hc7m := kb_bne hc7n | have hc7m := kb_nbne hc7n | have hc7m := isIx_t hc7n | have hc7m := isIx_f hc7n | have hc7m := inR_t hc7n | have hc7m := inR_f hc7n | have hc7m := dec_tt hc7n | have hc7m := dec_ff hc7n | have hc7m := hc7n
            try simp only [List.get_eq_getElem] at hc7n
            try simp only [List.get_eq_getElem] at hc7m
            try (exfalso; simp_all; done; done)
            all_goals
              refine kwp_seq ?_
              refine kwp_region ?_
              refine kops_d rfl rfl (opv_assign rfl rfl) ?_
              refine kops_nil ?_
              refine kn_then ?_
              refine kwp_ret ?_
              refine kr_then ?_
              refine kret1 [] rfl rfl ?_ (by (repeat (first | exact Sub.refl _ | exact Sub.nil _ | refine Sub.chunk (by repeat (first | exact Pick.here | apply Pick.there)) (by first | rfl | (simp; done) | (congr 1; omega)) ?_)))
              exact ⟨rfl, rfl⟩
          ·
            first | have hc7n := kb_nt hc7 | have hc7n := kb_nf hc7 | have hc7n := hc7
            first | have hc7m := of_decide_eq_true hc7n | have hc7m := of_decide_eq_false hc7n | have hc7m := kb_eq hc7n | have hc7m := kb_ne hc7n | have hc7m := kb_bne hc7n | have hc7m := kb_nbne hc7n | have hc7m := isIx_t hc7n | have hc7m := isIx_f hc7n | have hc7m := inR_t hc7n | have hc7m := inR_f hc7n | have hc7m := dec_tt hc7n | have hc7m := dec_ff hc7n | have hc7m := hc7n
            try simp only [List.get_eq_getElem] at hc7n
            try simp only [List.get_eq_getElem] at hc7m
            try (exfalso; simp_all; done; done)
            all_goals
              refine kwp_skip ?_
              refine kn_then ?_
              refine kwp_seq ?_
              refine kwp_region ?_
              refine kops_d rfl rfl (opv_assign rfl rfl) ?_
              refine kops_nil ?_
              refine kn_then ?_
              refine kwp_ret ?_
              refine kret1 [] rfl rfl ?_ (by (repeat (first | exact Sub.refl _ | exact Sub.nil _ | refine Sub.chunk (by repeat (first | exact Pick.here | apply Pick.there)) (by first | rfl | (simp; done) | (congr 1; omega)) ?_)))
              exact ⟨rfl, rfl⟩

set_option maxRecDepth 20000 in
theorem c_impl_areIndices (a4 : Option Addr) (n4 c4 : Nat) (so : List Int) (m : Int) (hb : n4 ≤ 9223372036854775807) :
    Triple Try.prog 70 [.slice a4 n4 c4, .int .i64 m] [⟨.slice a4 n4 c4, 1, so.map encI⟩] [] (fun r ch => r = .bool (dec (AreIx so m)) ∧ ch = []) := by
  refine triple_start 18 Try.func70 Try.ntmps70 rfl rfl (fun w0 => ?_)
  refine kwp_len (List.Mem.head _) (fun hn4 => ?_)
  simp only [List.length_map] at hn4
  subst hn4
  refine kwp_seq ?_
  refine kwp_region ?_
  refine kops_d rfl rfl (opv_assign rfl rfl) ?_
  refine kops_nil ?_
  refine kn_then ?_
  refine kwp_seq ?_
  refine kwp_seq ?_
  refine kwp_region ?_
  refine kops_d rfl rfl (opv_move rfl rfl) ?_
  refine kops_d rfl rfl (opv_len rfl rfl rfl Try.runUnderlying39) ?_
  refine kops_d rfl rfl (opv_move rfl rfl) ?_
  refine kops_nil ?_
  refine kn_then ?_
  refine kwp_block ?_
  refine kwp_loop1 (inv := [(1, _), (7, _), (8, _)]) (ic := [])
    (fun (k : Nat) => [(9, .int .i64 k)])
    (fun (k : Nat) => [])
    (fun (k : Nat) => k ≤ so.length ∧ (∀ i, i < k → 0 ≤ gx so i ∧ gx so i < m))
    (fun (k : Nat) => so.length - k)
    ⟨0, ⟨by (exact ⟨by omega, fun i hi => by omega⟩), by (repeat (first | exact Knows.nil _ | refine Knows.cons2 rfl (by first | rfl | (simp; done) | (congr 1; omega)) ?_)), by (repeat (first | exact Sub.refl _ | exact Sub.nil _ | refine Sub.chunk (by repeat (first | exact Pick.here | apply Pick.there)) (by first | rfl | (simp; done) | (congr 1; omega)) ?_))⟩⟩ (fun k hp => ?_)
  obtain ⟨hk, hso⟩ := hp
  refine kwp_seq ?_
  refine kwp_region ?_
  refine kops_d rfl rfl (opv_cmp rfl rfl rfl rfl) ?_
  refine kops_nil ?_
  refine kn_then ?_
  refine kwp_seq ?_
  refine kwp_cond rfl (fun hc2 => ?_) (fun hc2 => ?_)
  ·
    first | have hc2n := kb_nt hc2 | have hc2n := kb_nf hc2 | have hc2n := hc2
    first | have hc2m := of_decide_eq_true hc2n | have hc2m := of_decide_eq_false hc2n | have hc2m := kb_eq hc2n | have hc2m := kb_ne hc2n | have hc2m := kb_bne hc2n | have hc2m := kb_nbne hc2n | have hc2m := isIx_t hc2n | have hc2m := isIx_f hc2n | have hc2m := inR_t hc2n | have hc2m := inR_f hc2n | have hc2m := dec_tt hc2n | have hc2m := dec_ff hc2n | have hc2m := hc2n
    try simp only [List.get_eq_getElem] at hc2n
    try simp only [List.get_eq_getElem] at hc2m
    refine kwp_skip ?_
    refine kn_then ?_
    refine kwp_seq ?_
    refine kwp_block ?_
    refine kwp_seq ?_
    refine kwp_region ?_
    refine kops_d rfl rfl (opv_ia rfl rfl rfl Try.runUnderlying39 Try.sizeOf3 (by repeat (first | exact List.Mem.head _ | apply List.Mem.tail)) (by first | rfl | exact (Int.toNat_of_nonneg (by omega)).symm) (by first | omega | (simp only [List.length_map]; omega) | (rw [fill_len (by omega)]; omega) | (simp; omega) | (simp; done))) ?_
    refine kops_d rfl rfl (opv_load rfl rfl Try.isAgg3 (by repeat (first | exact List.Mem.head _ | apply List.Mem.tail)) (by first | rfl | exact gx_map (by omega) | exact fill_get (by omega) | (simp; done)) rfl) ?_
    refine kops_d rfl rfl (opv_assign rfl rfl) ?_
    refine kops_nil ?_
    refine kn_then ?_
    refine kwp_seq ?_
    refine kwp_region ?_
    refine kops_d rfl rfl (opv_move rfl rfl) ?_
    refine kops_d rfl rfl (opv_move rfl rfl) ?_
    refine kops_step rfl (opk_call rfl Try.call60 rfl (c_impl_isIndex _ _) ((perm_nil _)) ((Views.nil _)) ?_)
    rintro _ _ ⟨rfl, rfl⟩
    refine kops_d rfl rfl (opv_not rfl rfl) ?_
    refine kops_nil ?_
    refine kn_then ?_
    refine kwp_cond rfl (fun hc5 => ?_) (fun hc5 => ?_)
    ·
      first | have hc5n := kb_nt hc5 | have hc5n := kb_nf hc5 | have hc5n := hc5
      first | have hc5m := of_decide_eq_true hc5n | have hc5m := of_decide_eq_false hc5n | have hc5m := kb_eq hc5n | have hc5m := kb_ne hc5n | have hc5m := kb_bne hc5n | have hc5m := kb_nbne hc5n | have hc5m := isIx_t hc5n | have hc5m := isIx_f hc5n | have hc5m := inR_t hc5n | have hc5m := inR_f hc5n | have hc5m := dec_tt hc5n | have hc5m := dec_ff hc5n | have hc5m := hc5n
      try simp only [List.get_eq_getElem] at hc5n
      try simp only [List.get_eq_getElem] at hc5m
      refine kwp_seq ?_
      refine kwp_region ?_
      refine kops_d rfl rfl (opv_assign rfl rfl) ?_
      refine kops_nil ?_
      refine kn_then ?_
      refine kwp_ret ?_
      refine kr_block ?_
      refine kr_then ?_
      refine kr_then ?_
      refine kr_block ?_
      refine kr_then ?_
      refine kret1 [] rfl rfl ?_ (by (repeat (first | exact Sub.refl _ | exact Sub.nil _ | refine Sub.chunk (by repeat (first | exact Pick.here | apply Pick.there)) (by first | rfl | (simp; done) | (congr 1; omega)) ?_)))
      first | exact ⟨by rw [dec_f (fun h => by have := h k (by omega); omega)], rfl⟩ | exact ⟨by rw [dec_t (p := AreIx so m) (fun i hi => hso i (by omega))], rfl⟩
    ·
      first | have hc5n := kb_nt hc5 | have hc5n := kb_nf hc5 | have hc5n := hc5
      first | have hc5m := of_decide_eq_true hc5n | have hc5m := of_decide_eq_false hc5n | have hc5m := kb_eq hc5n | have hc5m := kb_ne hc5n | have hc5m := kb_bne hc5n | have hc5m := kb_nbne hc5n | have hc5m := isIx_t hc5n | have hc5m := isIx_f hc5n | have hc5m := inR_t hc5n | have hc5m := inR_f hc5n | have hc5m := dec_tt hc5n | have hc5m := dec_ff hc5n | have hc5m := hc5n
      try simp only [List.get_eq_getElem] at hc5n
      try simp only [List.get_eq_getElem] at hc5m
      refine kwp_skip ?_
      refine kn_block ?_
      refine kn_then ?_
      refine kwp_region ?_
      refine kops_d rfl rfl (by first | exact opv_add rfl rfl rfl ⟨by omega, by omega⟩ | exact opv_ari rfl rfl rfl rfl) ?_
      refine kops_d rfl rfl (opv_move rfl rfl) ?_
      refine kops_nil ?_
      refine kn_then ?_
      exact ⟨k + 1, ⟨by (exact ⟨by omega, upto hso (by omega)⟩), by (repeat (first | exact Knows.nil _ | refine Knows.cons2 rfl (by first | rfl | (simp; done) | (congr 1; omega)) ?_)), by (repeat (first | exact Sub.refl _ | exact Sub.nil _ | refine Sub.chunk (by repeat (first | exact Pick.here | apply Pick.there)) (by first | rfl | (simp; done) | (congr 1; omega)) ?_))⟩, by omega⟩
  ·
    first | have hc2n := kb_nt hc2 | have hc2n := kb_nf hc2 | have hc2n := hc2
    first | have hc2m := of_decide_eq_true hc2n | have hc2m := of_decide_eq_false hc2n | have hc2m := kb_eq hc2n | have hc2m := kb_ne hc2n | have hc2m := kb_bne hc2n | have hc2m := kb_nbne hc2n | have hc2m := isIx_t hc2n | have hc2m := isIx_f hc2n | have hc2m := inR_t hc2n | have hc2m := inR_f hc2n | have hc2m := dec_tt hc2n | have hc2m := dec_ff hc2n | have hc2m := hc2n
    try simp only [List.get_eq_getElem] at hc2n
    try simp only [List.get_eq_getElem] at hc2m
    refine kwp_exit ?_
    refine ke_then ?_
    refine ke_then ?_
    refine ke_block ?_
    refine kn_then ?_
    refine kwp_seq ?_
    refine kwp_region ?_
    refine kops_d rfl rfl (opv_assign rfl rfl) ?_
    refine kops_nil ?_
    refine kn_then ?_
    refine kwp_ret ?_
    refine kret1 [] rfl rfl ?_ (by (repeat (first | exact Sub.refl _ | exact Sub.nil _ | refine Sub.chunk (by repeat (first | exact Pick.here | apply Pick.there)) (by first | rfl | (simp; done) | (congr 1; omega)) ?_)))
    first | exact ⟨by rw [dec_f (fun h => by have := h k (by omega); omega)], rfl⟩ | exact ⟨by rw [dec_t (p := AreIx so m) (fun i hi => hso i (by omega))], rfl⟩

set_option maxRecDepth 20000 in
theorem c_impl_SillsHigh (af aa al : Option Addr) (nf cf na ca ns cs : Nat) (F A : List Int) (S : List Sill) (a4 : Option Addr) (n4 c4 : Nat) (so : List Int) (hb : nf ≤ 9223372036854775807 ∧ na ≤ 9223372036854775807 ∧ ns ≤ 9223372036854775807 ∧ n4 ≤ 1048576) :
    Triple Try.prog 41 [.agg #[.slice af nf cf, .slice aa na ca, .slice al ns cs], .slice a4 n4 c4] [⟨.slice af nf cf, 1, F.map encI⟩, ⟨.slice aa na ca, 1, A.map encI⟩, ⟨.slice al ns cs, 3, S.map encSill⟩, ⟨.slice a4 n4 c4, 1, so.map encI⟩] [] (fun r ch => r = .int .i64 (sillsHigh F A S so) ∧ ch = []) := by
  refine triple_start 35 Try.func41 Try.ntmps41 rfl rfl (fun w0 => ?_)
  refine kwp_len (List.Mem.head _) (fun hnf => ?_)
  refine kwp_len (List.Mem.tail _ (List.Mem.head _)) (fun hna => ?_)
  refine kwp_len (List.Mem.tail _ (List.Mem.tail _ (List.Mem.head _))) (fun hns => ?_)
  refine kwp_len (List.Mem.tail _ (List.Mem.tail _ (List.Mem.tail _ (List.Mem.head _)))) (fun hn4 => ?_)
  simp only [List.length_map] at hnf hna hns hn4
  subst hnf hna hns hn4
  refine kwp_seq ?_
  refine kwp_region ?_
  refine kops_step rfl (opk_box' (e := [_, _, _]) 3 rfl rfl rfl rfl (by decide) (fun p2 => ?_))
  refine kops_d rfl rfl (opv_assign rfl rfl) ?_
  refine kops_nil ?_
  refine kn_then ?_
  refine kwp_seq ?_
  refine kwp_seq ?_
  refine kwp_region ?_
  refine kops_d rfl rfl (opv_load_box rfl rfl Try.isAgg47 Try.sizeOf47 (by repeat (first | exact List.Mem.head _ | apply List.Mem.tail))) ?_
  refine kops_step rfl (opk_call rfl Try.call26 rfl (c_impl_CaveValid _ _ _ _ _ _ _ _ _ _ _ _  ⟨by omega, by omega, by omega⟩) ((perm_nil _)) (Views.cons (by repeat (first | exact List.Mem.head _ | apply List.Mem.tail)) (View.refl _) (Views.cons (by repeat (first | exact List.Mem.head _ | apply List.Mem.tail)) (View.refl _) (Views.cons (by repeat (first | exact List.Mem.head _ | apply List.Mem.tail)) (View.refl _) ((Views.nil _))))) ?_)
  rintro _ _ ⟨rfl, rfl⟩
  refine kops_d rfl rfl (opv_not rfl rfl) ?_
  refine kops_d rfl rfl (opv_move rfl rfl) ?_
  refine kops_split 11 rfl (fun hb3 => ?_) (fun hb3 => ?_)
  ·
    first | have hb3n := kb_nt hb3 | have hb3n := kb_nf hb3 | have hb3n := hb3
    first | have hb3m := of_decide_eq_true hb3n | have hb3m := of_decide_eq_false hb3n | have hb3m := kb_eq hb3n | have hb3m := kb_ne hb3n | have hb3m := kb_bne hb3n | have hb3m := kb_nbne hb3n | have hb3m := isIx_t hb3n | have hb3m := isIx_f hb3n | have hb3m := inR_t hb3n | have hb3m := inR_f hb3n | have hb3m := dec_tt hb3n | have hb3m := dec_ff hb3n | have hb3m := hb3n
    try simp only [List.get_eq_getElem] at hb3n
    try simp only [List.get_eq_getElem] at hb3m
    try (have hC : CaveOk _ _ _ := hb3m; obtain ⟨hn1, hn6, hal, hs9, hfl, har, hsl⟩ := hC)
    try have hC : CaveOk F A S := hb3m
    try have hA : AreIx so _ := hb3m
    try have hAk := hA k (by omega)
    try have hhb := high_bd hC (j := (gx so k).toNat) (by omega)
    try have hbd := highTo_bd (some := so) (n := so.length) hC (fun i hi => hA i (by omega)) k (by omega)
    refine kops_skip rfl rfl rfl hb3 ?_
    refine kops_skip rfl rfl rfl hb3 ?_
    refine kops_skip rfl rfl rfl hb3 ?_
    refine kops_skip rfl rfl rfl hb3 ?_
    refine kops_skip rfl rfl rfl hb3 ?_
    refine kops_skip rfl rfl rfl hb3 ?_
    refine kops_d rfl rfl (opv_pick_t rfl rfl rfl hb3) ?_
    refine kops_nil ?_
    refine kn_then ?_
    refine kwp_cond_t rfl rfl ?_
    refine kwp_seq ?_
    refine kwp_region ?_
    refine kops_d rfl rfl (opv_assign rfl rfl) ?_
    refine kops_nil ?_
    refine kn_then ?_
    refine kwp_ret ?_
    refine kr_then ?_
    refine kret1 [] rfl rfl ?_ (by (repeat (first | exact Sub.refl _ | exact Sub.nil _ | refine Sub.chunk (by repeat (first | exact Pick.here | apply Pick.there)) (by first | rfl | (simp; done) | (congr 1; omega)) ?_)))
    first | exact ⟨by rw [sillsHigh_f (fun h => by first | exact absurd h.1 (by assumption) | exact absurd h.2 (by assumption))], rfl⟩ | exact ⟨by rw [sillsHigh_t hC hA, show k = so.length by omega], rfl⟩
  ·
    first | have hb3n := kb_nt hb3 | have hb3n := kb_nf hb3 | have hb3n := hb3
    first | have hb3m := of_decide_eq_true hb3n | have hb3m := of_decide_eq_false hb3n | have hb3m := kb_eq hb3n | have hb3m := kb_ne hb3n | have hb3m := kb_bne hb3n | have hb3m := kb_nbne hb3n | have hb3m := isIx_t hb3n | have hb3m := isIx_f hb3n | have hb3m := inR_t hb3n | have hb3m := inR_f hb3n | have hb3m := dec_tt hb3n | have hb3m := dec_ff hb3n | have hb3m := hb3n
    try simp only [List.get_eq_getElem] at hb3n
    try simp only [List.get_eq_getElem] at hb3m
    try (have hC : CaveOk _ _ _ := hb3m; obtain ⟨hn1, hn6, hal, hs9, hfl, har, hsl⟩ := hC)
    try have hC : CaveOk F A S := hb3m
    try have hA : AreIx so _ := hb3m
    try have hAk := hA k (by omega)
    try have hhb := high_bd hC (j := (gx so k).toNat) (by omega)
    try have hbd := highTo_bd (some := so) (n := so.length) hC (fun i hi => hA i (by omega)) k (by omega)
    refine kops_gd rfl rfl rfl hb3 rfl (opv_move rfl rfl) ?_
    refine kops_gd rfl rfl rfl hb3 rfl (opv_fab rfl rfl fa_47_2 (by repeat (first | exact List.Mem.head _ | apply List.Mem.tail))) ?_
    refine kops_gd rfl rfl rfl hb3 rfl (opv_load rfl rfl Try.isAgg45 (by repeat (first | exact List.Mem.head _ | apply List.Mem.tail)) (by first | rfl | exact gx_map (by omega) | exact fill_get (by omega) | (simp; done)) rfl) ?_
    refine kops_gd rfl rfl rfl hb3 rfl (opv_len rfl rfl rfl Try.runUnderlying45) ?_
    refine kops_gk rfl rfl rfl hb3 (opk_call rfl Try.call70 rfl (c_impl_areIndices _ _ _ _ _ (by omega)) ((perm_nil _)) (Views.cons (by repeat (first | exact List.Mem.head _ | apply List.Mem.tail)) (View.refl _) ((Views.nil _))) ?_)
    rintro _ _ ⟨rfl, rfl⟩
    refine kops_gd rfl rfl rfl hb3 rfl (opv_not rfl rfl) ?_
    refine kops_d rfl rfl (opv_pick_f rfl rfl rfl hb3) ?_
    refine kops_nil ?_
    refine kn_then ?_
    refine kwp_cond rfl (fun hc6 => ?_) (fun hc6 => ?_)
    ·
      first | have hc6n := kb_nt hc6 | have hc6n := kb_nf hc6 | have hc6n := hc6
      first | have hc6m := of_decide_eq_true hc6n | have hc6m := of_decide_eq_false hc6n | have hc6m := kb_eq hc6n | have hc6m := kb_ne hc6n | have hc6m := kb_bne hc6n | have hc6m := kb_nbne hc6n | have hc6m := isIx_t hc6n | have hc6m := isIx_f hc6n | have hc6m := inR_t hc6n | have hc6m := inR_f hc6n | have hc6m := dec_tt hc6n | have hc6m := dec_ff hc6n | have hc6m := hc6n
      try simp only [List.get_eq_getElem] at hc6n
      try simp only [List.get_eq_getElem] at hc6m
      try (have hC : CaveOk _ _ _ := hc6m; obtain ⟨hn1, hn6, hal, hs9, hfl, har, hsl⟩ := hC)
      try have hC : CaveOk F A S := hc6m
      try have hA : AreIx so _ := hc6m
      try have hAk := hA k (by omega)
      try have hhb := high_bd hC (j := (gx so k).toNat) (by omega)
      try have hbd := highTo_bd (some := so) (n := so.length) hC (fun i hi => hA i (by omega)) k (by omega)
      refine kwp_seq ?_
      refine kwp_region ?_
      refine kops_d rfl rfl (opv_assign rfl rfl) ?_
      refine kops_nil ?_
      refine kn_then ?_
      refine kwp_ret ?_
      refine kr_then ?_
      refine kret1 [] rfl rfl ?_ (by (repeat (first | exact Sub.refl _ | exact Sub.nil _ | refine Sub.chunk (by repeat (first | exact Pick.here | apply Pick.there)) (by first | rfl | (simp; done) | (congr 1; omega)) ?_)))
      first | exact ⟨by rw [sillsHigh_f (fun h => by first | exact absurd h.1 (by assumption) | exact absurd h.2 (by assumption))], rfl⟩ | exact ⟨by rw [sillsHigh_t hC hA, show k = so.length by omega], rfl⟩
    ·
      first | have hc6n := kb_nt hc6 | have hc6n := kb_nf hc6 | have hc6n := hc6
      first | have hc6m := of_decide_eq_true hc6n | have hc6m := of_decide_eq_false hc6n | have hc6m := kb_eq hc6n | have hc6m := kb_ne hc6n | have hc6m := kb_bne hc6n | have hc6m := kb_nbne hc6n | have hc6m := isIx_t hc6n | have hc6m := isIx_f hc6n | have hc6m := inR_t hc6n | have hc6m := inR_f hc6n | have hc6m := dec_tt hc6n | have hc6m := dec_ff hc6n | have hc6m := hc6n
      try simp only [List.get_eq_getElem] at hc6n
      try simp only [List.get_eq_getElem] at hc6m
      try (have hC : CaveOk _ _ _ := hc6m; obtain ⟨hn1, hn6, hal, hs9, hfl, har, hsl⟩ := hC)
      try have hC : CaveOk F A S := hc6m
      try have hA : AreIx so _ := hc6m
      try have hAk := hA k (by omega)
      try have hhb := high_bd hC (j := (gx so k).toNat) (by omega)
      try have hbd := highTo_bd (some := so) (n := so.length) hC (fun i hi => hA i (by omega)) k (by omega)
      refine kwp_skip ?_
      refine kn_then ?_
      refine kwp_seq ?_
      refine kwp_region ?_
      refine kops_d rfl rfl (opv_assign rfl rfl) ?_
      refine kops_nil ?_
      refine kn_then ?_
      refine kwp_seq ?_
      refine kwp_seq ?_
      refine kwp_region ?_
      refine kops_d rfl rfl (opv_move rfl rfl) ?_
      refine kops_d rfl rfl (opv_len rfl rfl rfl Try.runUnderlying39) ?_
      refine kops_d rfl rfl (opv_move rfl rfl) ?_
      refine kops_nil ?_
      refine kn_then ?_
      refine kwp_block ?_
      refine kwp_loop1 (inv := [(2, _), (4, _), (19, _), (20, _)]) (ic := [⟨.pointer (some p2), _, _⟩])
        (fun (k : Nat) => [(5, .int .i64 (highTo S so k)), (21, .int .i64 k)])
        (fun (k : Nat) => [])
        (fun (k : Nat) => k ≤ so.length)
        (fun (k : Nat) => so.length - k)
        ⟨0, ⟨by first | trivial | omega | (refine ⟨?_, ?_⟩ <;> omega) | (simp; done), by (repeat (first | exact Knows.nil _ | refine Knows.cons2 rfl (by first | rfl | (simp; done) | (congr 1; omega)) ?_)), by (repeat (first | exact Sub.refl _ | exact Sub.nil _ | refine Sub.chunk (by repeat (first | exact Pick.here | apply Pick.there)) (by first | rfl | (simp; done) | (congr 1; omega)) ?_))⟩⟩ (fun k hp => ?_)
      refine kwp_seq ?_
      refine kwp_region ?_
      refine kops_d rfl rfl (opv_cmp rfl rfl rfl rfl) ?_
      refine kops_nil ?_
      refine kn_then ?_
      refine kwp_seq ?_
      refine kwp_cond rfl (fun hc8 => ?_) (fun hc8 => ?_)
      ·
        first | have hc8n := kb_nt hc8 | have hc8n := kb_nf hc8 | have hc8n := hc8
        first | have hc8m := of_decide_eq_true hc8n | have hc8m := of_decide_eq_false hc8n | have hc8m := kb_eq hc8n | have hc8m := kb_ne hc8n | have hc8m := kb_bne hc8n | have hc8m := kb_nbne hc8n | have hc8m := isIx_t hc8n | have hc8m := isIx_f hc8n | have hc8m := inR_t hc8n | have hc8m := inR_f hc8n | have hc8m := dec_tt hc8n | have hc8m := dec_ff hc8n | have hc8m := hc8n
        try simp only [List.get_eq_getElem] at hc8n
        try simp only [List.get_eq_getElem] at hc8m
        try (have hC : CaveOk _ _ _ := hc8m; obtain ⟨hn1, hn6, hal, hs9, hfl, har, hsl⟩ := hC)
        try have hC : CaveOk F A S := hc8m
        try have hA : AreIx so _ := hc8m
        try have hAk := hA k (by omega)
        try have hhb := high_bd hC (j := (gx so k).toNat) (by omega)
        try have hbd := highTo_bd (some := so) (n := so.length) hC (fun i hi => hA i (by omega)) k (by omega)
        refine kwp_skip ?_
        refine kn_then ?_
        refine kwp_seq ?_
        refine kwp_block ?_
        refine kwp_seq ?_
        refine kwp_region ?_
        refine kops_d rfl rfl (opv_ia rfl rfl rfl Try.runUnderlying39 Try.sizeOf3 (by repeat (first | exact List.Mem.head _ | apply List.Mem.tail)) (by first | rfl | exact (Int.toNat_of_nonneg (by omega)).symm) (by first | omega | (simp only [List.length_map]; omega) | (rw [fill_len (by omega)]; omega) | (simp; omega) | (simp; done))) ?_
        refine kops_d rfl rfl (opv_load rfl rfl Try.isAgg3 (by repeat (first | exact List.Mem.head _ | apply List.Mem.tail)) (by first | rfl | exact gx_map (by omega) | exact fill_get (by omega) | (simp; done)) rfl) ?_
        refine kops_d rfl rfl (opv_assign rfl rfl) ?_
        refine kops_nil ?_
        refine kn_then ?_
        refine kwp_region ?_
        refine kops_d rfl rfl (opv_move rfl rfl) ?_
        refine kops_d rfl rfl (opv_fab rfl rfl fa_47_2 (by repeat (first | exact List.Mem.head _ | apply List.Mem.tail))) ?_
        refine kops_d rfl rfl (opv_load rfl rfl Try.isAgg45 (by repeat (first | exact List.Mem.head _ | apply List.Mem.tail)) (by first | rfl | exact gx_map (by omega) | exact fill_get (by omega) | (simp; done)) rfl) ?_
        refine kops_d rfl rfl (opv_move rfl rfl) ?_
        refine kops_d rfl rfl (opv_ia rfl rfl rfl Try.runUnderlying45 Try.sizeOf83 (by repeat (first | exact List.Mem.head _ | apply List.Mem.tail)) (by first | rfl | exact (Int.toNat_of_nonneg (by omega)).symm) (by first | omega | (simp only [List.length_map]; omega) | (rw [fill_len (by omega)]; omega) | (simp; omega) | (simp; done))) ?_
        refine kops_d rfl rfl (opv_fa rfl rfl fa_83_2 (by repeat (first | exact List.Mem.head _ | apply List.Mem.tail)) (by first | omega | (simp only [List.length_map]; omega) | (rw [fill_len (by omega)]; omega) | (simp; omega) | (simp; done))) ?_
        refine kops_d rfl rfl (opv_load rfl rfl Try.isAgg3 (by repeat (first | exact List.Mem.head _ | apply List.Mem.tail)) (by first | rfl | exact gx_map (by omega) | exact fill_get (by omega) | (simp; done)) rfl) ?_
        refine kops_d rfl rfl (by first | exact opv_add rfl rfl rfl ⟨by omega, by omega⟩ | exact opv_ari rfl rfl rfl rfl) ?_
        refine kops_d rfl rfl (opv_assign rfl rfl) ?_
        refine kops_nil ?_
        refine kn_block ?_
        refine kn_then ?_
        refine kwp_region ?_
        refine kops_d rfl rfl (by first | exact opv_add rfl rfl rfl ⟨by omega, by omega⟩ | exact opv_ari rfl rfl rfl rfl) ?_
        refine kops_d rfl rfl (opv_move rfl rfl) ?_
        refine kops_nil ?_
        refine kn_then ?_
        exact ⟨k + 1, ⟨by first | trivial | omega | (refine ⟨?_, ?_⟩ <;> omega) | (simp; done), by (repeat (first | exact Knows.nil _ | refine Knows.cons2 rfl (by first | rfl | (simp; done) | (congr 1; omega)) ?_)), by (repeat (first | exact Sub.refl _ | exact Sub.nil _ | refine Sub.chunk (by repeat (first | exact Pick.here | apply Pick.there)) (by first | rfl | (simp; done) | (congr 1; omega)) ?_))⟩, by omega⟩
      ·
        first | have hc8n := kb_nt hc8 | have hc8n := kb_nf hc8 | have hc8n := hc8
        first | have hc8m := of_decide_eq_true hc8n | have hc8m := of_decide_eq_false hc8n | have hc8m := kb_eq hc8n | have hc8m := kb_ne hc8n | have hc8m := kb_bne hc8n | have hc8m := kb_nbne hc8n | have hc8m := isIx_t hc8n | have hc8m := isIx_f hc8n | have hc8m := inR_t hc8n | have hc8m := inR_f hc8n | have hc8m := dec_tt hc8n | have hc8m := dec_ff hc8n | have hc8m := hc8n
        try simp only [List.get_eq_getElem] at hc8n
        try simp only [List.get_eq_getElem] at hc8m
        try (have hC : CaveOk _ _ _ := hc8m; obtain ⟨hn1, hn6, hal, hs9, hfl, har, hsl⟩ := hC)
        try have hC : CaveOk F A S := hc8m
        try have hA : AreIx so _ := hc8m
        try have hAk := hA k (by omega)
        try have hhb := high_bd hC (j := (gx so k).toNat) (by omega)
        try have hbd := highTo_bd (some := so) (n := so.length) hC (fun i hi => hA i (by omega)) k (by omega)
        refine kwp_exit ?_
        refine ke_then ?_
        refine ke_then ?_
        refine ke_block ?_
        refine kn_then ?_
        refine kwp_seq ?_
        refine kwp_region ?_
        refine kops_d rfl rfl (opv_move rfl rfl) ?_
        refine kops_d rfl rfl (opv_assign rfl rfl) ?_
        refine kops_nil ?_
        refine kn_then ?_
        refine kwp_ret ?_
        refine kret1 [] rfl rfl ?_ (by (repeat (first | exact Sub.refl _ | exact Sub.nil _ | refine Sub.chunk (by repeat (first | exact Pick.here | apply Pick.there)) (by first | rfl | (simp; done) | (congr 1; omega)) ?_)))
        first | exact ⟨by rw [sillsHigh_f (fun h => by first | exact absurd h.1 (by assumption) | exact absurd h.2 (by assumption))], rfl⟩ | exact ⟨by rw [sillsHigh_t hC hA, show k = so.length by omega], rfl⟩

set_option maxRecDepth 20000 in
theorem c_spec_SillsHigh (af aa al : Option Addr) (nf cf na ca ns cs : Nat) (F A : List Int) (S : List Sill) (a4 : Option Addr) (n4 c4 : Nat) (so : List Int) (hb : nf ≤ 9223372036854775807 ∧ na ≤ 9223372036854775807 ∧ ns ≤ 9223372036854775807 ∧ n4 ≤ 1048576) :
    Triple Try.prog 40 [.agg #[.slice af nf cf, .slice aa na ca, .slice al ns cs], .slice a4 n4 c4] [⟨.slice af nf cf, 1, F.map encI⟩, ⟨.slice aa na ca, 1, A.map encI⟩, ⟨.slice al ns cs, 3, S.map encSill⟩, ⟨.slice a4 n4 c4, 1, so.map encI⟩] [] (fun r ch => r = .int .i64 (sillsHigh F A S so) ∧ ch = []) := by
  refine triple_start 38 Try.func40 Try.ntmps40 rfl rfl (fun w0 => ?_)
  refine kwp_len (List.Mem.head _) (fun hnf => ?_)
  refine kwp_len (List.Mem.tail _ (List.Mem.head _)) (fun hna => ?_)
  refine kwp_len (List.Mem.tail _ (List.Mem.tail _ (List.Mem.head _))) (fun hns => ?_)
  refine kwp_len (List.Mem.tail _ (List.Mem.tail _ (List.Mem.tail _ (List.Mem.head _)))) (fun hn4 => ?_)
  simp only [List.length_map] at hnf hna hns hn4
  subst hnf hna hns hn4
  refine kwp_seq ?_
  refine kwp_region ?_
  refine kops_step rfl (opk_box' (e := [_, _, _]) 3 rfl rfl rfl rfl (by decide) (fun p2 => ?_))
  refine kops_d rfl rfl (opv_assign rfl rfl) ?_
  refine kops_nil ?_
  refine kn_then ?_
  refine kwp_seq ?_
  refine kwp_seq ?_
  refine kwp_region ?_
  refine kops_d rfl rfl (opv_load_box rfl rfl Try.isAgg47 Try.sizeOf47 (by repeat (first | exact List.Mem.head _ | apply List.Mem.tail))) ?_
  refine kops_step rfl (opk_call rfl Try.call24 rfl (c_spec_CaveValid _ _ _ _ _ _ _ _ _ _ _ _  ⟨by omega, by omega, by omega⟩) ((perm_nil _)) (Views.cons (by repeat (first | exact List.Mem.head _ | apply List.Mem.tail)) (View.refl _) (Views.cons (by repeat (first | exact List.Mem.head _ | apply List.Mem.tail)) (View.refl _) (Views.cons (by repeat (first | exact List.Mem.head _ | apply List.Mem.tail)) (View.refl _) ((Views.nil _))))) ?_)
  rintro _ _ ⟨rfl, rfl⟩
  refine kops_d rfl rfl (opv_not rfl rfl) ?_
  refine kops_nil ?_
  refine kn_then ?_
  refine kwp_cond rfl (fun hc3 => ?_) (fun hc3 => ?_)
  ·
    first | have hc3n := kb_nt hc3 | have hc3n := kb_nf hc3 | have hc3n := hc3
    first | have hc3m := of_decide_eq_true hc3n | have hc3m := of_decide_eq_false hc3n | have hc3m := kb_eq hc3n | have hc3m := kb_ne hc3n | have hc3m := kb_bne hc3n | have hc3m := kb_nbne hc3n | have hc3m := isIx_t hc3n | have hc3m := isIx_f hc3n | have hc3m := inR_t hc3n | have hc3m := inR_f hc3n | have hc3m := dec_tt hc3n | have hc3m := dec_ff hc3n | have hc3m := hc3n
    try simp only [List.get_eq_getElem] at hc3n
    try simp only [List.get_eq_getElem] at hc3m
    try (have hC : CaveOk _ _ _ := hc3m; obtain ⟨hn1, hn6, hal, hs9, hfl, har, hsl⟩ := hC)
    try have hC : CaveOk F A S := hc3m
    try have hhb := high_bd hC (j := (gx so k).toNat) (by omega)
    try have hbd := highTo_bd (some := so) (n := k) hC hso k (by omega)
    refine kwp_seq ?_
    refine kwp_region ?_
    refine kops_d rfl rfl (opv_assign rfl rfl) ?_
    refine kops_nil ?_
    refine kn_then ?_
    refine kwp_ret ?_
    refine kr_then ?_
    refine kret1 [] rfl rfl ?_ (by (repeat (first | exact Sub.refl _ | exact Sub.nil _ | refine Sub.chunk (by repeat (first | exact Pick.here | apply Pick.there)) (by first | rfl | (simp; done) | (congr 1; omega)) ?_)))
    first | exact ⟨by rw [sillsHigh_f (fun h => by first | exact absurd h.1 (by assumption) | (have := h.2 k (by omega); omega))], rfl⟩ | exact ⟨by rw [sillsHigh_t hC (fun i hi => hso i (by omega)), show k = so.length by omega], rfl⟩
  ·
    first | have hc3n := kb_nt hc3 | have hc3n := kb_nf hc3 | have hc3n := hc3
    first | have hc3m := of_decide_eq_true hc3n | have hc3m := of_decide_eq_false hc3n | have hc3m := kb_eq hc3n | have hc3m := kb_ne hc3n | have hc3m := kb_bne hc3n | have hc3m := kb_nbne hc3n | have hc3m := isIx_t hc3n | have hc3m := isIx_f hc3n | have hc3m := inR_t hc3n | have hc3m := inR_f hc3n | have hc3m := dec_tt hc3n | have hc3m := dec_ff hc3n | have hc3m := hc3n
    try simp only [List.get_eq_getElem] at hc3n
    try simp only [List.get_eq_getElem] at hc3m
    try (have hC : CaveOk _ _ _ := hc3m; obtain ⟨hn1, hn6, hal, hs9, hfl, har, hsl⟩ := hC)
    try have hC : CaveOk F A S := hc3m
    try have hhb := high_bd hC (j := (gx so k).toNat) (by omega)
    try have hbd := highTo_bd (some := so) (n := k) hC hso k (by omega)
    refine kwp_skip ?_
    refine kn_then ?_
    refine kwp_seq ?_
    refine kwp_region ?_
    refine kops_d rfl rfl (opv_assign rfl rfl) ?_
    refine kops_nil ?_
    refine kn_then ?_
    refine kwp_seq ?_
    refine kwp_seq ?_
    refine kwp_region ?_
    refine kops_d rfl rfl (opv_assign rfl rfl) ?_
    refine kops_nil ?_
    refine kn_then ?_
    refine kwp_block ?_
    refine kwp_loop1 (inv := [(1, _), (2, _)]) (ic := [⟨.pointer (some p2), _, _⟩])
      (fun (k : Nat) => [(5, .int .i64 (highTo S so k)), (6, .int .i64 k)])
      (fun (k : Nat) => [])
      (fun (k : Nat) => k ≤ so.length ∧ (∀ i, i < k → 0 ≤ gx so i ∧ gx so i < S.length))
      (fun (k : Nat) => so.length - k)
      ⟨0, ⟨by (exact ⟨by omega, fun i hi => by omega⟩), by (repeat (first | exact Knows.nil _ | refine Knows.cons2 rfl (by first | rfl | (simp; done) | (congr 1; omega)) ?_)), by (repeat (first | exact Sub.refl _ | exact Sub.nil _ | refine Sub.chunk (by repeat (first | exact Pick.here | apply Pick.there)) (by first | rfl | (simp; done) | (congr 1; omega)) ?_))⟩⟩ (fun k hp => ?_)
    obtain ⟨hk, hso⟩ := hp
    refine kwp_seq ?_
    refine kwp_seq ?_
    refine kwp_region ?_
    refine kops_d rfl rfl (opv_move rfl rfl) ?_
    refine kops_d rfl rfl (opv_move rfl rfl) ?_
    refine kops_d rfl rfl (opv_len rfl rfl rfl Try.runUnderlying39) ?_
    refine kops_d rfl rfl (opv_cmp rfl rfl rfl rfl) ?_
    refine kops_nil ?_
    refine kn_then ?_
    refine kwp_cond rfl (fun hc5 => ?_) (fun hc5 => ?_)
    ·
      first | have hc5n := kb_nt hc5 | have hc5n := kb_nf hc5 | have hc5n := hc5
      first | have hc5m := of_decide_eq_true hc5n | have hc5m := of_decide_eq_false hc5n | have hc5m := kb_eq hc5n | have hc5m := kb_ne hc5n | have hc5m := kb_bne hc5n | have hc5m := kb_nbne hc5n | have hc5m := isIx_t hc5n | have hc5m := isIx_f hc5n | have hc5m := inR_t hc5n | have hc5m := inR_f hc5n | have hc5m := dec_tt hc5n | have hc5m := dec_ff hc5n | have hc5m := hc5n
      try simp only [List.get_eq_getElem] at hc5n
      try simp only [List.get_eq_getElem] at hc5m
      try (have hC : CaveOk _ _ _ := hc5m; obtain ⟨hn1, hn6, hal, hs9, hfl, har, hsl⟩ := hC)
      try have hC : CaveOk F A S := hc5m
      try have hhb := high_bd hC (j := (gx so k).toNat) (by omega)
      try have hbd := highTo_bd (some := so) (n := k) hC hso k (by omega)
      refine kwp_skip ?_
      refine kn_then ?_
      refine kwp_seq ?_
      refine kwp_block ?_
      refine kwp_seq ?_
      refine kwp_seq ?_
      refine kwp_draw [(0, true), (1, true), (2, true), (3, true), (4, true), (5, true), (6, true), (7, true), (8, false), (9, true)] [] _ drawMixed (by kernel_rfl) (fun _ _ _ h => h) (Sub.refl _) ?_
      refine ks_d rfl rfl rfl (opv_move rfl rfl) ?_
      refine ks_d rfl rfl rfl (opv_move rfl rfl) ?_
      refine ks_d rfl rfl rfl (opv_ia rfl rfl rfl Try.runUnderlying39 Try.sizeOf3 (by repeat (first | exact List.Mem.head _ | apply List.Mem.tail)) (by first | rfl | exact (Int.toNat_of_nonneg (by omega)).symm) (by first | omega | (simp only [List.length_map]; omega) | (rw [fill_len (by omega)]; omega) | (simp; omega) | (simp; done))) ?_
      refine ks_d rfl rfl rfl (opv_load rfl rfl Try.isAgg3 (by repeat (first | exact List.Mem.head _ | apply List.Mem.tail)) (by first | rfl | exact gx_map (by omega) | exact fill_get (by omega) | (simp; done)) rfl) ?_
      refine ks_d rfl rfl rfl (opv_fab rfl rfl fa_47_2 (by repeat (first | exact List.Mem.head _ | apply List.Mem.tail))) ?_
      refine ks_d rfl rfl rfl (opv_load rfl rfl Try.isAgg45 (by repeat (first | exact List.Mem.head _ | apply List.Mem.tail)) (by first | rfl | exact gx_map (by omega) | exact fill_get (by omega) | (simp; done)) rfl) ?_
      refine ks_d rfl rfl rfl (opv_len rfl rfl rfl Try.runUnderlying45) ?_
      refine ks_d rfl rfl rfl (by first | exact opv_sub rfl rfl rfl ⟨by omega, by omega⟩ | exact opv_ari rfl rfl rfl rfl) ?_
      refine ks_k rfl rfl (opk_call rfl Try.call56 rfl (c_spec_l1In _ _ _) ((perm_nil _)) ((Views.nil _)) ?_)
      rintro _ _ ⟨rfl, rfl⟩
      refine ⟨.inl (by (repeat (first | exact Sub.refl _ | exact Sub.nil _ | refine Sub.chunk (by repeat (first | exact Pick.here | apply Pick.there)) (by first | rfl | (simp; done) | (congr 1; omega)) ?_))), ?_⟩
      refine ks_d rfl rfl rfl (opv_not rfl rfl) ?_
      refine ks_nil ?_
      refine kn_then ?_
      refine kwp_cond rfl (fun hc8 => ?_) (fun hc8 => ?_)
      ·
        first | have hc8n := kb_nt hc8 | have hc8n := kb_nf hc8 | have hc8n := hc8
        first | have hc8m := of_decide_eq_true hc8n | have hc8m := of_decide_eq_false hc8n | have hc8m := kb_eq hc8n | have hc8m := kb_ne hc8n | have hc8m := kb_bne hc8n | have hc8m := kb_nbne hc8n | have hc8m := isIx_t hc8n | have hc8m := isIx_f hc8n | have hc8m := inR_t hc8n | have hc8m := inR_f hc8n | have hc8m := dec_tt hc8n | have hc8m := dec_ff hc8n | have hc8m := hc8n
        try simp only [List.get_eq_getElem] at hc8n
        try simp only [List.get_eq_getElem] at hc8m
        try (have hC : CaveOk _ _ _ := hc8m; obtain ⟨hn1, hn6, hal, hs9, hfl, har, hsl⟩ := hC)
        try have hC : CaveOk F A S := hc8m
        try have hhb := high_bd hC (j := (gx so k).toNat) (by omega)
        try have hbd := highTo_bd (some := so) (n := k) hC hso k (by omega)
        refine kwp_seq ?_
        refine kwp_region ?_
        refine kops_d rfl rfl (opv_assign rfl rfl) ?_
        refine kops_nil ?_
        refine kn_then ?_
        refine kwp_ret ?_
        refine kr_then ?_
        refine kr_block ?_
        refine kr_then ?_
        refine kr_then ?_
        refine kr_block ?_
        refine kr_then ?_
        refine kret1 [] rfl rfl ?_ (by (repeat (first | exact Sub.refl _ | exact Sub.nil _ | refine Sub.chunk (by repeat (first | exact Pick.here | apply Pick.there)) (by first | rfl | (simp; done) | (congr 1; omega)) ?_)))
        first | exact ⟨by rw [sillsHigh_f (fun h => by first | exact absurd h.1 (by assumption) | (have := h.2 k (by omega); omega))], rfl⟩ | exact ⟨by rw [sillsHigh_t hC (fun i hi => hso i (by omega)), show k = so.length by omega], rfl⟩
      ·
        first | have hc8n := kb_nt hc8 | have hc8n := kb_nf hc8 | have hc8n := hc8
        first | have hc8m := of_decide_eq_true hc8n | have hc8m := of_decide_eq_false hc8n | have hc8m := kb_eq hc8n | have hc8m := kb_ne hc8n | have hc8m := kb_bne hc8n | have hc8m := kb_nbne hc8n | have hc8m := isIx_t hc8n | have hc8m := isIx_f hc8n | have hc8m := inR_t hc8n | have hc8m := inR_f hc8n | have hc8m := dec_tt hc8n | have hc8m := dec_ff hc8n | have hc8m := hc8n
        try simp only [List.get_eq_getElem] at hc8n
        try simp only [List.get_eq_getElem] at hc8m
        try (have hC : CaveOk _ _ _ := hc8m; obtain ⟨hn1, hn6, hal, hs9, hfl, har, hsl⟩ := hC)
        try have hC : CaveOk F A S := hc8m
        try have hhb := high_bd hC (j := (gx so k).toNat) (by omega)
        try have hbd := highTo_bd (some := so) (n := k) hC hso k (by omega)
        refine kwp_skip ?_
        refine kn_then ?_
        refine kwp_draw [(0, true), (1, true), (2, true), (3, true), (4, true), (5, true), (6, true), (7, true), (8, true), (9, true), (10, true), (11, true)] [] _ drawMixed (by kernel_rfl) (fun _ _ _ h => h) (Sub.refl _) ?_
        refine ks_d rfl rfl rfl (opv_move rfl rfl) ?_
        refine ks_d rfl rfl rfl (opv_fab rfl rfl fa_47_2 (by repeat (first | exact List.Mem.head _ | apply List.Mem.tail))) ?_
        refine ks_d rfl rfl rfl (opv_load rfl rfl Try.isAgg45 (by repeat (first | exact List.Mem.head _ | apply List.Mem.tail)) (by first | rfl | exact gx_map (by omega) | exact fill_get (by omega) | (simp; done)) rfl) ?_
        refine ks_d rfl rfl rfl (opv_move rfl rfl) ?_
        refine ks_d rfl rfl rfl (opv_move rfl rfl) ?_
        refine ks_d rfl rfl rfl (opv_ia rfl rfl rfl Try.runUnderlying39 Try.sizeOf3 (by repeat (first | exact List.Mem.head _ | apply List.Mem.tail)) (by first | rfl | exact (Int.toNat_of_nonneg (by omega)).symm) (by first | omega | (simp only [List.length_map]; omega) | (rw [fill_len (by omega)]; omega) | (simp; omega) | (simp; done))) ?_
        refine ks_d rfl rfl rfl (opv_load rfl rfl Try.isAgg3 (by repeat (first | exact List.Mem.head _ | apply List.Mem.tail)) (by first | rfl | exact gx_map (by omega) | exact fill_get (by omega) | (simp; done)) rfl) ?_
        refine ks_d rfl rfl rfl (opv_ia rfl rfl rfl Try.runUnderlying45 Try.sizeOf83 (by repeat (first | exact List.Mem.head _ | apply List.Mem.tail)) (by first | rfl | exact (Int.toNat_of_nonneg (by omega)).symm) (by first | omega | (simp only [List.length_map]; omega) | (rw [fill_len (by omega)]; omega) | (simp; omega) | (simp; done))) ?_
        refine ks_d rfl rfl rfl (opv_fa rfl rfl fa_83_2 (by repeat (first | exact List.Mem.head _ | apply List.Mem.tail)) (by first | omega | (simp only [List.length_map]; omega) | (rw [fill_len (by omega)]; omega) | (simp; omega) | (simp; done))) ?_
        refine ks_d rfl rfl rfl (opv_load rfl rfl Try.isAgg3 (by repeat (first | exact List.Mem.head _ | apply List.Mem.tail)) (by first | rfl | exact gx_map (by omega) | exact fill_get (by omega) | (simp; done)) rfl) ?_
        refine ks_d rfl rfl rfl (by first | exact opv_add rfl rfl rfl ⟨by omega, by omega⟩ | exact opv_ari rfl rfl rfl rfl) ?_
        refine ks_d rfl rfl rfl (opv_assign rfl rfl) ?_
        refine ks_nil ?_
        refine kn_block ?_
        refine kn_then ?_
        refine kwp_region ?_
        refine kops_d rfl rfl (opv_move rfl rfl) ?_
        refine kops_d rfl rfl (by first | exact opv_add rfl rfl rfl ⟨by omega, by omega⟩ | exact opv_ari rfl rfl rfl rfl) ?_
        refine kops_d rfl rfl (opv_assign rfl rfl) ?_
        refine kops_nil ?_
        refine kn_then ?_
        exact ⟨k + 1, ⟨by (exact ⟨by omega, upto hso (by omega)⟩), by (repeat (first | exact Knows.nil _ | refine Knows.cons2 rfl (by first | rfl | (simp; done) | (congr 1; omega)) ?_)), by (repeat (first | exact Sub.refl _ | exact Sub.nil _ | refine Sub.chunk (by repeat (first | exact Pick.here | apply Pick.there)) (by first | rfl | (simp; done) | (congr 1; omega)) ?_))⟩, by omega⟩
    ·
      first | have hc5n := kb_nt hc5 | have hc5n := kb_nf hc5 | have hc5n := hc5
      first | have hc5m := of_decide_eq_true hc5n | have hc5m := of_decide_eq_false hc5n | have hc5m := kb_eq hc5n | have hc5m := kb_ne hc5n | have hc5m := kb_bne hc5n | have hc5m := kb_nbne hc5n | have hc5m := isIx_t hc5n | have hc5m := isIx_f hc5n | have hc5m := inR_t hc5n | have hc5m := inR_f hc5n | have hc5m := dec_tt hc5n | have hc5m := dec_ff hc5n | have hc5m := hc5n
      try simp only [List.get_eq_getElem] at hc5n
      try simp only [List.get_eq_getElem] at hc5m
      try (have hC : CaveOk _ _ _ := hc5m; obtain ⟨hn1, hn6, hal, hs9, hfl, har, hsl⟩ := hC)
      try have hC : CaveOk F A S := hc5m
      try have hhb := high_bd hC (j := (gx so k).toNat) (by omega)
      try have hbd := highTo_bd (some := so) (n := k) hC hso k (by omega)
      refine kwp_exit ?_
      refine ke_then ?_
      refine ke_then ?_
      refine ke_block ?_
      refine kn_then ?_
      refine kwp_seq ?_
      refine kwp_region ?_
      refine kops_d rfl rfl (opv_move rfl rfl) ?_
      refine kops_d rfl rfl (opv_assign rfl rfl) ?_
      refine kops_nil ?_
      refine kn_then ?_
      refine kwp_ret ?_
      refine kret1 [] rfl rfl ?_ (by (repeat (first | exact Sub.refl _ | exact Sub.nil _ | refine Sub.chunk (by repeat (first | exact Pick.here | apply Pick.there)) (by first | rfl | (simp; done) | (congr 1; omega)) ?_)))
      first | exact ⟨by rw [sillsHigh_f (fun h => by first | exact absurd h.1 (by assumption) | (have := h.2 k (by omega); omega))], rfl⟩ | exact ⟨by rw [sillsHigh_t hC (fun i hi => hso i (by omega)), show k = so.length by omega], rfl⟩

set_option maxRecDepth 20000 in
theorem c_laws_FnExactSillsHigh (af aa al : Option Addr) (nf cf na ca ns cs : Nat) (F A : List Int) (S : List Sill) (a4 : Option Addr) (n4 c4 : Nat) (so : List Int) (hb : nf ≤ 9223372036854775807 ∧ na ≤ 9223372036854775807 ∧ ns ≤ 9223372036854775807 ∧ n4 ≤ 9223372036854775807) :
    Triple Try.prog 10 [.agg #[.slice af nf cf, .slice aa na ca, .slice al ns cs], .slice a4 n4 c4] [⟨.slice af nf cf, 1, F.map encI⟩, ⟨.slice aa na ca, 1, A.map encI⟩, ⟨.slice al ns cs, 3, S.map encSill⟩, ⟨.slice a4 n4 c4, 1, so.map encI⟩] [] (fun r ch => r = .bool true ∧ ch = []) := by
  refine triple_start 43 Try.func10 Try.ntmps10 rfl rfl (fun w0 => ?_)
  refine kwp_len (List.Mem.head _) (fun hnf => ?_)
  refine kwp_len (List.Mem.tail _ (List.Mem.head _)) (fun hna => ?_)
  refine kwp_len (List.Mem.tail _ (List.Mem.tail _ (List.Mem.head _))) (fun hns => ?_)
  refine kwp_len (List.Mem.tail _ (List.Mem.tail _ (List.Mem.tail _ (List.Mem.head _)))) (fun hn4 => ?_)
  simp only [List.length_map] at hnf hna hns hn4
  subst hnf hna hns hn4
  refine kwp_seq ?_
  refine kwp_region ?_
  refine kops_step rfl (opk_box' (e := [_, _, _]) 3 rfl rfl rfl rfl (by decide) (fun p2 => ?_))
  refine kops_d rfl rfl (opv_assign rfl rfl) ?_
  refine kops_nil ?_
  refine kn_then ?_
  refine kwp_seq ?_
  refine kwp_seq ?_
  refine kwp_region ?_
  refine kops_d rfl rfl (opv_move rfl rfl) ?_
  refine kops_d rfl rfl (opv_len rfl rfl rfl Try.runUnderlying39) ?_
  refine kops_d rfl rfl (opv_cmp rfl rfl rfl rfl) ?_
  refine kops_nil ?_
  refine kn_then ?_
  refine kwp_cond rfl (fun hc2 => ?_) (fun hc2 => ?_)
  ·
    first | have hc2n := kb_nt hc2 | have hc2n := kb_nf hc2 | have hc2n := hc2
    first | have hc2m := of_decide_eq_true hc2n | have hc2m := of_decide_eq_false hc2n | have hc2m := kb_eq hc2n | have hc2m := kb_ne hc2n | have hc2m := kb_bne hc2n | have hc2m := kb_nbne hc2n | have hc2m := isIx_t hc2n | have hc2m := isIx_f hc2n | have hc2m := inR_t hc2n | have hc2m := inR_f hc2n | have hc2m := dec_tt hc2n | have hc2m := dec_ff hc2n | have hc2m := hc2n
    try simp only [List.get_eq_getElem] at hc2n
    try simp only [List.get_eq_getElem] at hc2m
    try (exfalso; simp_all; done; done)
    all_goals
      refine kwp_seq ?_
      refine kwp_region ?_
      refine kops_d rfl rfl (opv_assign rfl rfl) ?_
      refine kops_nil ?_
      refine kn_then ?_
      refine kwp_ret ?_
      refine kr_then ?_
      refine kret1 [] rfl rfl ?_ (by (repeat (first | exact Sub.refl _ | exact Sub.nil _ | refine Sub.chunk (by repeat (first | exact Pick.here | apply Pick.there)) (by first | rfl | (simp; done) | (congr 1; omega)) ?_)))
      exact ⟨rfl, rfl⟩
  ·
    first | have hc2n := kb_nt hc2 | have hc2n := kb_nf hc2 | have hc2n := hc2
    first | have hc2m := of_decide_eq_true hc2n | have hc2m := of_decide_eq_false hc2n | have hc2m := kb_eq hc2n | have hc2m := kb_ne hc2n | have hc2m := kb_bne hc2n | have hc2m := kb_nbne hc2n | have hc2m := isIx_t hc2n | have hc2m := isIx_f hc2n | have hc2m := inR_t hc2n | have hc2m := inR_f hc2n | have hc2m := dec_tt hc2n | have hc2m := dec_ff hc2n | have hc2m := hc2n
    try simp only [List.get_eq_getElem] at hc2n
    try simp only [List.get_eq_getElem] at hc2m
    try (exfalso; simp_all; done; done)
    all_goals
      refine kwp_skip ?_
      refine kn_then ?_
      refine kwp_seq ?_
      refine kwp_region ?_
      refine kops_d rfl rfl (opv_assign rfl rfl) ?_
      refine kops_nil ?_
      refine kn_then ?_
      refine kwp_seq ?_
      refine kwp_region ?_
      refine kops_d rfl rfl (opv_load_box rfl rfl Try.isAgg42 Try.sizeOf42 (by repeat (first | exact List.Mem.head _ | apply List.Mem.tail))) ?_
      refine kops_d rfl rfl (opv_move rfl rfl) ?_
      refine kops_step rfl (opk_call rfl Try.call23 rfl (c_laws_szCave _ _ _ _ _ _ _ _ _ _ ⟨by omega, by omega⟩ ⟨by omega, by omega, by omega⟩) ((perm_nil _)) ((Views.nil _)) ?_)
      rintro _ _ ⟨x15, rfl, hl15, hg15, hx15, rfl⟩
      refine kops_d rfl rfl (opv_assign rfl rfl) ?_
      refine kops_nil ?_
      refine kn_then ?_
      refine kwp_seq ?_
      refine kwp_seq ?_
      refine kwp_region ?_
      refine kops_d rfl rfl (opv_move rfl rfl) ?_
      refine kops_d rfl rfl (opv_cmp rfl rfl rfl rfl) ?_
      refine kops_nil ?_
      refine kn_then ?_
      refine kwp_cond rfl (fun hc4 => ?_) (fun hc4 => ?_)
      ·
        first | have hc4n := kb_nt hc4 | have hc4n := kb_nf hc4 | have hc4n := hc4
        first | have hc4m := of_decide_eq_true hc4n | have hc4m := of_decide_eq_false hc4n | have hc4m := kb_eq hc4n | have hc4m := kb_ne hc4n | have hc4m := kb_bne hc4n | have hc4m := kb_nbne hc4n | have hc4m := isIx_t hc4n | have hc4m := isIx_f hc4n | have hc4m := inR_t hc4n | have hc4m := inR_f hc4n | have hc4m := dec_tt hc4n | have hc4m := dec_ff hc4n | have hc4m := hc4n
        try simp only [List.get_eq_getElem] at hc4n
        try simp only [List.get_eq_getElem] at hc4m
        try (exfalso; simp_all; done; done)
        all_goals
          refine kwp_seq ?_
          refine kwp_region ?_
          refine kops_d rfl rfl (opv_assign rfl rfl) ?_
          refine kops_nil ?_
          refine kn_then ?_
          refine kwp_ret ?_
          refine kr_then ?_
          refine kret1 [] rfl rfl ?_ (by (repeat (first | exact Sub.refl _ | exact Sub.nil _ | refine Sub.chunk (by repeat (first | exact Pick.here | apply Pick.there)) (by first | rfl | (simp; done) | (congr 1; omega)) ?_)))
          exact ⟨rfl, rfl⟩
      ·
        first | have hc4n := kb_nt hc4 | have hc4n := kb_nf hc4 | have hc4n := hc4
        first | have hc4m := of_decide_eq_true hc4n | have hc4m := of_decide_eq_false hc4n | have hc4m := kb_eq hc4n | have hc4m := kb_ne hc4n | have hc4m := kb_bne hc4n | have hc4m := kb_nbne hc4n | have hc4m := isIx_t hc4n | have hc4m := isIx_f hc4n | have hc4m := inR_t hc4n | have hc4m := inR_f hc4n | have hc4m := dec_tt hc4n | have hc4m := dec_ff hc4n | have hc4m := hc4n
        try simp only [List.get_eq_getElem] at hc4n
        try simp only [List.get_eq_getElem] at hc4m
        try (exfalso; simp_all; done; done)
        all_goals
          refine kwp_skip ?_
          refine kn_then ?_
          refine kwp_seq ?_
          refine kwp_region ?_
          refine kops_d rfl rfl (opv_load_box rfl rfl Try.isAgg42 Try.sizeOf42 (by repeat (first | exact List.Mem.head _ | apply List.Mem.tail))) ?_
          refine kops_step rfl (opk_call rfl Try.call25 rfl (c_laws_toCave _ _ _ _ _ _ _ _ _ _ _ _  ⟨by omega, by omega, by omega⟩) ((perm_nil _)) (Views.cons (by repeat (first | exact List.Mem.head _ | apply List.Mem.tail)) (View.refl _) (Views.cons (by repeat (first | exact List.Mem.head _ | apply List.Mem.tail)) (View.refl _) (Views.cons (by repeat (first | exact List.Mem.head _ | apply List.Mem.tail)) (View.refl _) ((Views.nil _))))) ?_)
          rintro _ _ ⟨a19_1, c19_1, a19_2, c19_2, a19_3, c19_3, rfl, rfl⟩
          refine kops_d rfl rfl (opv_move rfl rfl) ?_
          refine kops_step rfl (opk_call rfl Try.call29 rfl (c_laws_toIntS _ _ _ _ (by omega)) ((perm_nil _)) (Views.cons (by repeat (first | exact List.Mem.head _ | apply List.Mem.tail)) (View.refl _) ((Views.nil _))) ?_)
          rintro _ _ ⟨a21, c21, rfl, rfl⟩
          refine kops_step rfl (opk_call rfl Try.call40 rfl (c_spec_SillsHigh _ _ _ _ _ _ _ _ _ _ _ _  _ _ _ _ ⟨by omega, by omega, by omega, by omega⟩) ((perm_nil _)) (Views.cons (by repeat (first | exact List.Mem.head _ | apply List.Mem.tail)) (View.refl _) (Views.cons (by repeat (first | exact List.Mem.head _ | apply List.Mem.tail)) (View.refl _) (Views.cons (by repeat (first | exact List.Mem.head _ | apply List.Mem.tail)) (View.refl _) (Views.cons (by repeat (first | exact List.Mem.head _ | apply List.Mem.tail)) (View.refl _) ((Views.nil _)))))) ?_)
          rintro _ _ ⟨rfl, rfl⟩
          refine kops_d rfl rfl (opv_assign rfl rfl) ?_
          refine kops_nil ?_
          refine kn_then ?_
          refine kwp_seq ?_
          refine kwp_region ?_
          refine kops_d rfl rfl (opv_load_box rfl rfl Try.isAgg42 Try.sizeOf42 (by repeat (first | exact List.Mem.head _ | apply List.Mem.tail))) ?_
          refine kops_step rfl (opk_call rfl Try.call25 rfl (c_laws_toCave _ _ _ _ _ _ _ _ _ _ _ _  ⟨by omega, by omega, by omega⟩) ((perm_nil _)) (Views.cons (by repeat (first | exact List.Mem.head _ | apply List.Mem.tail)) (View.refl _) (Views.cons (by repeat (first | exact List.Mem.head _ | apply List.Mem.tail)) (View.refl _) (Views.cons (by repeat (first | exact List.Mem.head _ | apply List.Mem.tail)) (View.refl _) ((Views.nil _))))) ?_)
          rintro _ _ ⟨a24_1, c24_1, a24_2, c24_2, a24_3, c24_3, rfl, rfl⟩
          refine kops_step rfl (opk_alloc' (e := [_, _, _]) 3 rfl Try.zeroValue47 rfl rfl (by decide) (fun p7 => ?_))
          refine kops_step rfl (opk_store_box (e' := [_, _, _]) rfl rfl rfl Try.sizeOf47 rfl (by first | exact one_aw | exact one_int | exact one_sill | decide | (simp [Value.oneCell']; done) | (intro x hx; simp at hx; rcases hx with rfl | rfl | rfl | rfl | rfl <;> rfl)) rfl (by repeat (first | exact Upd.here | apply Upd.there)) ?_)
          refine kops_nil ?_
          refine kn_then ?_
          refine kwp_seq ?_
          refine kwp_region ?_
          refine kops_d rfl rfl (opv_move rfl rfl) ?_
          refine kops_step rfl (opk_call rfl Try.call29 rfl (c_laws_toIntS _ _ _ _ (by omega)) ((perm_nil _)) (Views.cons (by repeat (first | exact List.Mem.head _ | apply List.Mem.tail)) (View.refl _) ((Views.nil _))) ?_)
          rintro _ _ ⟨a26, c26, rfl, rfl⟩
          refine kops_d rfl rfl (opv_assign rfl rfl) ?_
          refine kops_nil ?_
          refine kn_then ?_
          refine kwp_seq ?_
          refine kwp_region ?_
          refine kops_d rfl rfl (opv_load_box rfl rfl Try.isAgg47 Try.sizeOf47 (by repeat (first | exact List.Mem.head _ | apply List.Mem.tail))) ?_
          refine kops_d rfl rfl (opv_move rfl rfl) ?_
          refine kops_step rfl (opk_call rfl Try.call41 rfl (c_impl_SillsHigh _ _ _ _ _ _ _ _ _ _ _ _  _ _ _ _ ⟨by omega, by omega, by omega, by omega⟩) ((perm_nil _)) (Views.cons (by repeat (first | exact List.Mem.head _ | apply List.Mem.tail)) (View.refl _) (Views.cons (by repeat (first | exact List.Mem.head _ | apply List.Mem.tail)) (View.refl _) (Views.cons (by repeat (first | exact List.Mem.head _ | apply List.Mem.tail)) (View.refl _) (Views.cons (by repeat (first | exact List.Mem.head _ | apply List.Mem.tail)) (View.refl _) ((Views.nil _)))))) ?_)
          rintro _ _ ⟨rfl, rfl⟩
          refine kops_d rfl rfl (opv_assign rfl rfl) ?_
          refine kops_nil ?_
          refine kn_then ?_
          refine kwp_seq ?_
          refine kwp_seq ?_
          refine kwp_region ?_
          refine kops_d rfl rfl (opv_move rfl rfl) ?_
          refine kops_d rfl rfl (opv_move rfl rfl) ?_
          refine kops_d rfl rfl (opv_cmp rfl rfl rfl rfl) ?_
          refine kops_nil ?_
          refine kn_then ?_
          refine kwp_cond rfl (fun hc6 => ?_) (fun hc6 => ?_)
          ·
            first | have hc6n := kb_nt hc6 | have hc6n := kb_nf hc6 | have hc6n := hc6
            first | have hc6m := of_decide_eq_true hc6n | have hc6m := of_decide_eq_false hc6n | have hc6m := kb_eq hc6n | have hc6m := kb_ne hc6n | have hc6m := kb_bne hc6n | have hc6m := kb_nbne hc6n | have hc6m := isIx_t hc6n | have hc6m := isIx_f hc6n | have hc6m := inR_t hc6n | have hc6m := inR_f hc6n | have hc6m := dec_tt hc6n | have hc6m := dec_ff hc6n | have hc6m := hc6n
            try simp only [List.get_eq_getElem] at hc6n
            try simp only [List.get_eq_getElem] at hc6m
            try (exfalso; simp_all; done; done)
            all_goals
              refine kwp_seq ?_
              refine kwp_region ?_
              refine kops_d rfl rfl (opv_assign rfl rfl) ?_
              refine kops_nil ?_
              refine kn_then ?_
              refine kwp_ret ?_
              refine kr_then ?_
              refine kret1 [] rfl rfl ?_ (by (repeat (first | exact Sub.refl _ | exact Sub.nil _ | refine Sub.chunk (by repeat (first | exact Pick.here | apply Pick.there)) (by first | rfl | (simp; done) | (congr 1; omega)) ?_)))
              exact ⟨rfl, rfl⟩
          ·
            first | have hc6n := kb_nt hc6 | have hc6n := kb_nf hc6 | have hc6n := hc6
            first | have hc6m := of_decide_eq_true hc6n | have hc6m := of_decide_eq_false hc6n | have hc6m := kb_eq hc6n | have hc6m := kb_ne hc6n | have hc6m := kb_bne hc6n | have hc6m := kb_nbne hc6n | have hc6m := isIx_t hc6n | have hc6m := isIx_f hc6n | have hc6m := inR_t hc6n | have hc6m := inR_f hc6n | have hc6m := dec_tt hc6n | have hc6m := dec_ff hc6n | have hc6m := hc6n
            try simp only [List.get_eq_getElem] at hc6n
            try simp only [List.get_eq_getElem] at hc6m
            try (exfalso; simp_all; done; done)
            all_goals
              refine kwp_skip ?_
              refine kn_then ?_
              refine kwp_seq ?_
              refine kwp_seq ?_
              refine kwp_draw [(0, true), (1, true), (2, false), (3, false), (4, true)] [] _ drawMixed (by kernel_rfl) (fun _ _ _ h => h) (Sub.refl _) ?_
              refine ks_d rfl rfl rfl (opv_load_box rfl rfl Try.isAgg47 Try.sizeOf47 (by repeat (first | exact List.Mem.head _ | apply List.Mem.tail))) ?_
              refine ks_d rfl rfl rfl (opv_load_box rfl rfl Try.isAgg42 Try.sizeOf42 (by repeat (first | exact List.Mem.head _ | apply List.Mem.tail))) ?_
              refine ks_k rfl rfl (opk_call rfl Try.call25 rfl (c_laws_toCave _ _ _ _ _ _ _ _ _ _ _ _  ⟨by omega, by omega, by omega⟩) ((perm_nil _)) (Views.cons (by repeat (first | exact List.Mem.head _ | apply List.Mem.tail)) (View.refl _) (Views.cons (by repeat (first | exact List.Mem.head _ | apply List.Mem.tail)) (View.refl _) (Views.cons (by repeat (first | exact List.Mem.head _ | apply List.Mem.tail)) (View.refl _) ((Views.nil _))))) ?_)
              rintro _ _ ⟨a35_1, c35_1, a35_2, c35_2, a35_3, c35_3, rfl, rfl⟩
              refine ⟨.inl (by (repeat (first | exact Sub.refl _ | exact Sub.nil _ | refine Sub.chunk (by repeat (first | exact Pick.here | apply Pick.there)) (by first | rfl | (simp; done) | (congr 1; omega)) ?_))), ?_⟩
              refine ks_k rfl rfl (opk_call rfl Try.call27 rfl (c_laws_eqCave _ _ _ _ _ _ _ _ _ _ _ _  _ _ _ _ _ _ _ _ _ _ _ _  ⟨by omega, by omega, by omega⟩ ⟨by omega, by omega, by omega⟩) ((perm_nil _)) (Views.cons (by repeat (first | exact List.Mem.head _ | apply List.Mem.tail)) (View.refl _) (Views.cons (by repeat (first | exact List.Mem.head _ | apply List.Mem.tail)) (View.refl _) (Views.cons (by repeat (first | exact List.Mem.head _ | apply List.Mem.tail)) (View.refl _) (Views.cons (by repeat (first | exact List.Mem.head _ | apply List.Mem.tail)) (View.refl _) (Views.cons (by repeat (first | exact List.Mem.head _ | apply List.Mem.tail)) (View.refl _) (Views.cons (by repeat (first | exact List.Mem.head _ | apply List.Mem.tail)) (View.refl _) ((Views.nil _)))))))) ?_)
              rintro _ _ ⟨rfl, rfl⟩
              refine ⟨.inl (by (repeat (first | exact Sub.refl _ | exact Sub.nil _ | refine Sub.chunk (by repeat (first | exact Pick.here | apply Pick.there)) (by first | rfl | (simp; done) | (congr 1; omega)) ?_))), ?_⟩
              refine ks_d rfl rfl rfl (opv_not rfl rfl) ?_
              refine ks_nil ?_
              refine kn_then ?_
              refine kwp_cond rfl (fun hc9 => ?_) (fun hc9 => ?_)
              ·
                first | have hc9n := kb_nt hc9 | have hc9n := kb_nf hc9 | have hc9n := hc9
                first | have hc9m := of_decide_eq_true hc9n | have hc9m := of_decide_eq_false hc9n | have hc9m := kb_eq hc9n | have hc9m := kb_ne hc9n | have hc9m := kb_bne hc9n | have hc9m := kb_nbne hc9n | have hc9m := isIx_t hc9n | have hc9m := isIx_f hc9n | have hc9m := inR_t hc9n | have hc9m := inR_f hc9n | have hc9m := dec_tt hc9n | have hc9m := dec_ff hc9n | have hc9m := hc9n
                try simp only [List.get_eq_getElem] at hc9n
                try simp only [List.get_eq_getElem] at hc9m
                try (exfalso; simp_all; done; done)
                all_goals
                  refine kwp_seq ?_
                  refine kwp_region ?_
                  refine kops_d rfl rfl (opv_assign rfl rfl) ?_
                  refine kops_nil ?_
                  refine kn_then ?_
                  refine kwp_ret ?_
                  refine kr_then ?_
                  refine kret1 [] rfl rfl ?_ (by (repeat (first | exact Sub.refl _ | exact Sub.nil _ | refine Sub.chunk (by repeat (first | exact Pick.here | apply Pick.there)) (by first | rfl | (simp; done) | (congr 1; omega)) ?_)))
                  exact ⟨rfl, rfl⟩
              ·
                first | have hc9n := kb_nt hc9 | have hc9n := kb_nf hc9 | have hc9n := hc9
                first | have hc9m := of_decide_eq_true hc9n | have hc9m := of_decide_eq_false hc9n | have hc9m := kb_eq hc9n | have hc9m := kb_ne hc9n | have hc9m := kb_bne hc9n | have hc9m := kb_nbne hc9n | have hc9m := isIx_t hc9n | have hc9m := isIx_f hc9n | have hc9m := inR_t hc9n | have hc9m := inR_f hc9n | have hc9m := dec_tt hc9n | have hc9m := dec_ff hc9n | have hc9m := hc9n
                try simp only [List.get_eq_getElem] at hc9n
                try simp only [List.get_eq_getElem] at hc9m
                try (exfalso; simp_all; done; done)
                all_goals
                  refine kwp_skip ?_
                  refine kn_then ?_
                  refine kwp_seq ?_
                  refine kwp_seq ?_
                  refine kwp_region ?_
                  refine kops_d rfl rfl (opv_move rfl rfl) ?_
                  refine kops_d rfl rfl (opv_move rfl rfl) ?_
                  refine kops_step rfl (opk_call rfl Try.call29 rfl (c_laws_toIntS _ _ _ _ (by omega)) ((perm_nil _)) (Views.cons (by repeat (first | exact List.Mem.head _ | apply List.Mem.tail)) (View.refl _) ((Views.nil _))) ?_)
                  rintro _ _ ⟨a40, c40, rfl, rfl⟩
                  refine kops_step rfl (opk_call rfl Try.call31 rfl (c_laws_eqIntS _ _ _ _ _ _ _ _ ⟨by omega, by omega⟩) ((perm_nil _)) (Views.cons (by repeat (first | exact List.Mem.head _ | apply List.Mem.tail)) (View.refl _) (Views.cons (by repeat (first | exact List.Mem.head _ | apply List.Mem.tail)) (View.refl _) ((Views.nil _)))) ?_)
                  rintro _ _ ⟨rfl, rfl⟩
                  refine kops_d rfl rfl (opv_not rfl rfl) ?_
                  refine kops_nil ?_
                  refine kn_then ?_
                  refine kwp_cond rfl (fun hc12 => ?_) (fun hc12 => ?_)
                  ·
                    first | have hc12n := kb_nt hc12 | have hc12n := kb_nf hc12 | have hc12n := hc12
                    first | have hc12m := of_decide_eq_true hc12n | have hc12m := of_decide_eq_false hc12n | have hc12m := kb_eq hc12n | have hc12m := kb_ne hc12n | have hc12m := kb_bne hc12n | have hc12m := kb_nbne hc12n | have hc12m := isIx_t hc12n | have hc12m := isIx_f hc12n | have hc12m := inR_t hc12n | have hc12m := inR_f hc12n | have hc12m := dec_tt hc12n | have hc12m := dec_ff hc12n | have hc12m := hc12n
                    try simp only [List.get_eq_getElem] at hc12n
                    try simp only [List.get_eq_getElem] at hc12m
                    try (exfalso; simp_all; done; done)
                    all_goals
                      refine kwp_seq ?_
                      refine kwp_region ?_
                      refine kops_d rfl rfl (opv_assign rfl rfl) ?_
                      refine kops_nil ?_
                      refine kn_then ?_
                      refine kwp_ret ?_
                      refine kr_then ?_
                      refine kret1 [] rfl rfl ?_ (by (repeat (first | exact Sub.refl _ | exact Sub.nil _ | refine Sub.chunk (by repeat (first | exact Pick.here | apply Pick.there)) (by first | rfl | (simp; done) | (congr 1; omega)) ?_)))
                      exact ⟨rfl, rfl⟩
                  ·
                    first | have hc12n := kb_nt hc12 | have hc12n := kb_nf hc12 | have hc12n := hc12
                    first | have hc12m := of_decide_eq_true hc12n | have hc12m := of_decide_eq_false hc12n | have hc12m := kb_eq hc12n | have hc12m := kb_ne hc12n | have hc12m := kb_bne hc12n | have hc12m := kb_nbne hc12n | have hc12m := isIx_t hc12n | have hc12m := isIx_f hc12n | have hc12m := inR_t hc12n | have hc12m := inR_f hc12n | have hc12m := dec_tt hc12n | have hc12m := dec_ff hc12n | have hc12m := hc12n
                    try simp only [List.get_eq_getElem] at hc12n
                    try simp only [List.get_eq_getElem] at hc12m
                    try (exfalso; simp_all; done; done)
                    all_goals
                      refine kwp_skip ?_
                      refine kn_then ?_
                      refine kwp_seq ?_
                      refine kwp_region ?_
                      refine kops_d rfl rfl (opv_assign rfl rfl) ?_
                      refine kops_nil ?_
                      refine kn_then ?_
                      refine kwp_ret ?_
                      refine kret1 [] rfl rfl ?_ (by (repeat (first | exact Sub.refl _ | exact Sub.nil _ | refine Sub.chunk (by repeat (first | exact Pick.here | apply Pick.there)) (by first | rfl | (simp; done) | (congr 1; omega)) ?_)))
                      exact ⟨rfl, rfl⟩

end Go.Proofs.Ytfgialdcilldiaa
