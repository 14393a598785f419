/- The walks of some functions, each by its contract; conditions: those that each contract names. -/
import Derived.Test.YtfgialdcilldiaaWm
namespace Go.Proofs.Ytfgialdcilldiaa
open Go
set_option linter.unusedVariables false
set_option linter.unusedSimpArgs false


set_option maxRecDepth 20000 in
theorem c_spec_LegValid (st : Int) (g : Leg) :
    Triple Try.prog 88 [.int .i64 st, .agg #[.int .i64 g.f, .int .i64 g.t, .int .i64 g.e, .int .i64 g.n, .int .i64 g.u]] [] [] (fun r ch => r = .bool (dec (1 ≤ st ∧ st ≤ 6 ∧ LegOk st g)) ∧ ch = []) := by
  refine triple_start 43 Try.func88 Try.ntmps88 rfl rfl (fun w0 => ?_)
  refine kwp_seq ?_
  refine kwp_region ?_
  refine kops_step rfl (opk_box' (e := [_, _, _, _, _]) 5 rfl rfl rfl rfl (by decide) (fun p3 => ?_))
  refine kops_d rfl rfl (opv_assign rfl rfl) ?_
  refine kops_nil ?_
  refine kn_then ?_
  refine kwp_seq ?_
  refine kwp_region ?_
  refine kops_d rfl rfl (opv_move rfl rfl) ?_
  refine kops_step rfl (opk_call rfl Try.call56 rfl (c_spec_l1In _ _ _) ((perm_nil _)) ((Views.nil _)) ?_)
  rintro _ _ ⟨rfl, rfl⟩
  refine kops_d rfl rfl (opv_move rfl rfl) ?_
  refine kops_split 7 rfl (fun hb2 => ?_) (fun hb2 => ?_)
  ·
    first | have hb2n := kb_nt hb2 | have hb2n := kb_nf hb2 | have hb2n := hb2
    first | have hb2m := of_decide_eq_true hb2n | have hb2m := of_decide_eq_false hb2n | have hb2m := kb_eq hb2n | have hb2m := kb_ne hb2n | have hb2m := kb_bne hb2n | have hb2m := kb_nbne hb2n | have hb2m := isIx_t hb2n | have hb2m := isIx_f hb2n | have hb2m := inR_t hb2n | have hb2m := inR_f hb2n | have hb2m := dec_tt hb2n | have hb2m := dec_ff hb2n | have hb2m := hb2n
    try simp only [List.get_eq_getElem] at hb2n
    try simp only [List.get_eq_getElem] at hb2m
    refine kops_gd rfl rfl rfl hb2 rfl (opv_fab rfl rfl fa_111_0 (by repeat (first | exact List.Mem.head _ | apply List.Mem.tail))) ?_
    refine kops_gd rfl rfl rfl hb2 rfl (opv_load rfl rfl Try.isAgg3 (by repeat (first | exact List.Mem.head _ | apply List.Mem.tail)) (by first | rfl | exact get_map (by omega) | exact fill_get (by omega) | (simp; done)) rfl) ?_
    refine kops_gd rfl rfl rfl hb2 rfl (opv_move rfl rfl) ?_
    refine kops_gd rfl rfl rfl hb2 rfl (by first | exact opv_sub rfl rfl rfl ⟨by omega, by omega⟩ | exact opv_ari rfl rfl rfl rfl) ?_
    refine kops_gk rfl rfl rfl hb2 (opk_call rfl Try.call56 rfl (c_spec_l1In _ _ _) ((perm_nil _)) ((Views.nil _)) ?_)
    rintro _ _ ⟨rfl, rfl⟩
    refine kops_d rfl rfl (opv_pick_t rfl rfl rfl hb2) ?_
    refine kops_d rfl rfl (opv_move rfl rfl) ?_
    refine kops_split 14 rfl (fun hb4 => ?_) (fun hb4 => ?_)
    ·
      first | have hb4n := kb_nt hb4 | have hb4n := kb_nf hb4 | have hb4n := hb4
      first | have hb4m := of_decide_eq_true hb4n | have hb4m := of_decide_eq_false hb4n | have hb4m := kb_eq hb4n | have hb4m := kb_ne hb4n | have hb4m := kb_bne hb4n | have hb4m := kb_nbne hb4n | have hb4m := isIx_t hb4n | have hb4m := isIx_f hb4n | have hb4m := inR_t hb4n | have hb4m := inR_f hb4n | have hb4m := dec_tt hb4n | have hb4m := dec_ff hb4n | have hb4m := hb4n
      try simp only [List.get_eq_getElem] at hb4n
      try simp only [List.get_eq_getElem] at hb4m
      refine kops_gd rfl rfl rfl hb4 rfl (opv_fab rfl rfl fa_111_1 (by repeat (first | exact List.Mem.head _ | apply List.Mem.tail))) ?_
      refine kops_gd rfl rfl rfl hb4 rfl (opv_load rfl rfl Try.isAgg3 (by repeat (first | exact List.Mem.head _ | apply List.Mem.tail)) (by first | rfl | exact get_map (by omega) | exact fill_get (by omega) | (simp; done)) rfl) ?_
      refine kops_gd rfl rfl rfl hb4 rfl (opv_move rfl rfl) ?_
      refine kops_gd rfl rfl rfl hb4 rfl (by first | exact opv_sub rfl rfl rfl ⟨by omega, by omega⟩ | exact opv_ari rfl rfl rfl rfl) ?_
      refine kops_gk rfl rfl rfl hb4 (opk_call rfl Try.call56 rfl (c_spec_l1In _ _ _) ((perm_nil _)) ((Views.nil _)) ?_)
      rintro _ _ ⟨rfl, rfl⟩
      refine kops_d rfl rfl (opv_pick_t rfl rfl rfl hb4) ?_
      refine kops_d rfl rfl (opv_move rfl rfl) ?_
      refine kops_split 21 rfl (fun hb6 => ?_) (fun hb6 => ?_)
      ·
        first | have hb6n := kb_nt hb6 | have hb6n := kb_nf hb6 | have hb6n := hb6
        first | have hb6m := of_decide_eq_true hb6n | have hb6m := of_decide_eq_false hb6n | have hb6m := kb_eq hb6n | have hb6m := kb_ne hb6n | have hb6m := kb_bne hb6n | have hb6m := kb_nbne hb6n | have hb6m := isIx_t hb6n | have hb6m := isIx_f hb6n | have hb6m := inR_t hb6n | have hb6m := inR_f hb6n | have hb6m := dec_tt hb6n | have hb6m := dec_ff hb6n | have hb6m := hb6n
        try simp only [List.get_eq_getElem] at hb6n
        try simp only [List.get_eq_getElem] at hb6m
        refine kops_gd rfl rfl rfl hb6 rfl (opv_fab rfl rfl fa_111_0 (by repeat (first | exact List.Mem.head _ | apply List.Mem.tail))) ?_
        refine kops_gd rfl rfl rfl hb6 rfl (opv_load rfl rfl Try.isAgg3 (by repeat (first | exact List.Mem.head _ | apply List.Mem.tail)) (by first | rfl | exact get_map (by omega) | exact fill_get (by omega) | (simp; done)) rfl) ?_
        refine kops_gd rfl rfl rfl hb6 rfl (opv_fab rfl rfl fa_111_1 (by repeat (first | exact List.Mem.head _ | apply List.Mem.tail))) ?_
        refine kops_gd rfl rfl rfl hb6 rfl (opv_load rfl rfl Try.isAgg3 (by repeat (first | exact List.Mem.head _ | apply List.Mem.tail)) (by first | rfl | exact get_map (by omega) | exact fill_get (by omega) | (simp; done)) rfl) ?_
        refine kops_gd rfl rfl rfl hb6 rfl (opv_cmp rfl rfl rfl rfl) ?_
        refine kops_d rfl rfl (opv_pick_t rfl rfl rfl hb6) ?_
        refine kops_d rfl rfl (opv_move rfl rfl) ?_
        refine kops_split 28 rfl (fun hb8 => ?_) (fun hb8 => ?_)
        ·
          first | have hb8n := kb_nt hb8 | have hb8n := kb_nf hb8 | have hb8n := hb8
          first | have hb8m := of_decide_eq_true hb8n | have hb8m := of_decide_eq_false hb8n | have hb8m := kb_eq hb8n | have hb8m := kb_ne hb8n | have hb8m := kb_bne hb8n | have hb8m := kb_nbne hb8n | have hb8m := isIx_t hb8n | have hb8m := isIx_f hb8n | have hb8m := inR_t hb8n | have hb8m := inR_f hb8n | have hb8m := dec_tt hb8n | have hb8m := dec_ff hb8n | have hb8m := hb8n
          try simp only [List.get_eq_getElem] at hb8n
          try simp only [List.get_eq_getElem] at hb8m
          refine kops_gd rfl rfl rfl hb8 rfl (opv_fab rfl rfl fa_111_2 (by repeat (first | exact List.Mem.head _ | apply List.Mem.tail))) ?_
          refine kops_gd rfl rfl rfl hb8 rfl (opv_load rfl rfl Try.isAgg3 (by repeat (first | exact List.Mem.head _ | apply List.Mem.tail)) (by first | rfl | exact get_map (by omega) | exact fill_get (by omega) | (simp; done)) rfl) ?_
          refine kops_gk rfl rfl rfl hb8 (opk_call rfl Try.call56 rfl (c_spec_l1In _ _ _) ((perm_nil _)) ((Views.nil _)) ?_)
          rintro _ _ ⟨rfl, rfl⟩
          refine kops_d rfl rfl (opv_pick_t rfl rfl rfl hb8) ?_
          refine kops_d rfl rfl (opv_move rfl rfl) ?_
          refine kops_split 33 rfl (fun hb10 => ?_) (fun hb10 => ?_)
          ·
            first | have hb10n := kb_nt hb10 | have hb10n := kb_nf hb10 | have hb10n := hb10
            first | have hb10m := of_decide_eq_true hb10n | have hb10m := of_decide_eq_false hb10n | have hb10m := kb_eq hb10n | have hb10m := kb_ne hb10n | have hb10m := kb_bne hb10n | have hb10m := kb_nbne hb10n | have hb10m := isIx_t hb10n | have hb10m := isIx_f hb10n | have hb10m := inR_t hb10n | have hb10m := inR_f hb10n | have hb10m := dec_tt hb10n | have hb10m := dec_ff hb10n | have hb10m := hb10n
            try simp only [List.get_eq_getElem] at hb10n
            try simp only [List.get_eq_getElem] at hb10m
            refine kops_gd rfl rfl rfl hb10 rfl (opv_fab rfl rfl fa_111_3 (by repeat (first | exact List.Mem.head _ | apply List.Mem.tail))) ?_
            refine kops_gd rfl rfl rfl hb10 rfl (opv_load rfl rfl Try.isAgg3 (by repeat (first | exact List.Mem.head _ | apply List.Mem.tail)) (by first | rfl | exact get_map (by omega) | exact fill_get (by omega) | (simp; done)) rfl) ?_
            refine kops_gk rfl rfl rfl hb10 (opk_call rfl Try.call56 rfl (c_spec_l1In _ _ _) ((perm_nil _)) ((Views.nil _)) ?_)
            rintro _ _ ⟨rfl, rfl⟩
            refine kops_d rfl rfl (opv_pick_t rfl rfl rfl hb10) ?_
            refine kops_d rfl rfl (opv_move rfl rfl) ?_
            refine kops_split 38 rfl (fun hb12 => ?_) (fun hb12 => ?_)
            ·
              first | have hb12n := kb_nt hb12 | have hb12n := kb_nf hb12 | have hb12n := hb12
              first | have hb12m := of_decide_eq_true hb12n | have hb12m := of_decide_eq_false hb12n | have hb12m := kb_eq hb12n | have hb12m := kb_ne hb12n | have hb12m := kb_bne hb12n | have hb12m := kb_nbne hb12n | have hb12m := isIx_t hb12n | have hb12m := isIx_f hb12n | have hb12m := inR_t hb12n | have hb12m := inR_f hb12n | have hb12m := dec_tt hb12n | have hb12m := dec_ff hb12n | have hb12m := hb12n
              try simp only [List.get_eq_getElem] at hb12n
              try simp only [List.get_eq_getElem] at hb12m
              refine kops_gd rfl rfl rfl hb12 rfl (opv_fab rfl rfl fa_111_4 (by repeat (first | exact List.Mem.head _ | apply List.Mem.tail))) ?_
              refine kops_gd rfl rfl rfl hb12 rfl (opv_load rfl rfl Try.isAgg3 (by repeat (first | exact List.Mem.head _ | apply List.Mem.tail)) (by first | rfl | exact get_map (by omega) | exact fill_get (by omega) | (simp; done)) rfl) ?_
              refine kops_gk rfl rfl rfl hb12 (opk_call rfl Try.call56 rfl (c_spec_l1In _ _ _) ((perm_nil _)) ((Views.nil _)) ?_)
              rintro _ _ ⟨rfl, rfl⟩
              refine kops_d rfl rfl (opv_pick_t rfl rfl rfl hb12) ?_
              refine kops_d rfl rfl (opv_assign rfl rfl) ?_
              refine kops_nil ?_
              refine kn_then ?_
              refine kwp_ret ?_
              refine kret1 [] rfl rfl ?_ (by (repeat (first | exact Sub.refl _ | exact Sub.nil _ | refine Sub.chunk (by repeat (first | exact Pick.here | apply Pick.there)) (by first | rfl | (simp; done) | (congr 1; omega)) ?_)))
              first | exact ⟨vf (fun h => by obtain ⟨h1, h2, ⟨h3, h4, h5, h6, h7, h8, h9, h10, h11, h12, h13⟩⟩ := h; first | omega | exact h7 (by assumption)), rfl⟩ | exact ⟨vb (by rw [inR_iff]; exact ⟨fun h => ⟨by omega, by omega, ⟨by omega, by omega, by omega, by omega, by assumption, by omega, by omega, by omega, by omega, by omega, by omega⟩⟩, fun h => ⟨h.2.2.u0, h.2.2.u1⟩⟩), rfl⟩
            ·
              first | have hb12n := kb_nt hb12 | have hb12n := kb_nf hb12 | have hb12n := hb12
              first | have hb12m := of_decide_eq_true hb12n | have hb12m := of_decide_eq_false hb12n | have hb12m := kb_eq hb12n | have hb12m := kb_ne hb12n | have hb12m := kb_bne hb12n | have hb12m := kb_nbne hb12n | have hb12m := isIx_t hb12n | have hb12m := isIx_f hb12n | have hb12m := inR_t hb12n | have hb12m := inR_f hb12n | have hb12m := dec_tt hb12n | have hb12m := dec_ff hb12n | have hb12m := hb12n
              try simp only [List.get_eq_getElem] at hb12n
              try simp only [List.get_eq_getElem] at hb12m
              refine kops_skip rfl rfl rfl hb12 ?_
              refine kops_skip rfl rfl rfl hb12 ?_
              refine kops_skip rfl rfl rfl hb12 ?_
              refine kops_d rfl rfl (opv_pick_f rfl rfl rfl hb12) ?_
              refine kops_d rfl rfl (opv_assign rfl rfl) ?_
              refine kops_nil ?_
              refine kn_then ?_
              refine kwp_ret ?_
              refine kret1 [] rfl rfl ?_ (by (repeat (first | exact Sub.refl _ | exact Sub.nil _ | refine Sub.chunk (by repeat (first | exact Pick.here | apply Pick.there)) (by first | rfl | (simp; done) | (congr 1; omega)) ?_)))
              first | exact ⟨vf (fun h => by obtain ⟨h1, h2, ⟨h3, h4, h5, h6, h7, h8, h9, h10, h11, h12, h13⟩⟩ := h; first | omega | exact h7 (by assumption)), rfl⟩ | exact ⟨vb (by rw [inR_iff]; exact ⟨fun h => ⟨by omega, by omega, ⟨by omega, by omega, by omega, by omega, by assumption, by omega, by omega, by omega, by omega, by omega, by omega⟩⟩, fun h => ⟨h.2.2.u0, h.2.2.u1⟩⟩), rfl⟩
          ·
            first | have hb10n := kb_nt hb10 | have hb10n := kb_nf hb10 | have hb10n := hb10
            first | have hb10m := of_decide_eq_true hb10n | have hb10m := of_decide_eq_false hb10n | have hb10m := kb_eq hb10n | have hb10m := kb_ne hb10n | have hb10m := kb_bne hb10n | have hb10m := kb_nbne hb10n | have hb10m := isIx_t hb10n | have hb10m := isIx_f hb10n | have hb10m := inR_t hb10n | have hb10m := inR_f hb10n | have hb10m := dec_tt hb10n | have hb10m := dec_ff hb10n | have hb10m := hb10n
            try simp only [List.get_eq_getElem] at hb10n
            try simp only [List.get_eq_getElem] at hb10m
            refine kops_skip rfl rfl rfl hb10 ?_
            refine kops_skip rfl rfl rfl hb10 ?_
            refine kops_skip rfl rfl rfl hb10 ?_
            refine kops_d rfl rfl (opv_pick_f rfl rfl rfl hb10) ?_
            refine kops_d rfl rfl (opv_move rfl rfl) ?_
            refine kops_skip rfl rfl rfl rfl ?_
            refine kops_skip rfl rfl rfl rfl ?_
            refine kops_skip rfl rfl rfl rfl ?_
            refine kops_d rfl rfl (opv_pick_f rfl rfl rfl rfl) ?_
            refine kops_d rfl rfl (opv_assign rfl rfl) ?_
            refine kops_nil ?_
            refine kn_then ?_
            refine kwp_ret ?_
            refine kret1 [] rfl rfl ?_ (by (repeat (first | exact Sub.refl _ | exact Sub.nil _ | refine Sub.chunk (by repeat (first | exact Pick.here | apply Pick.there)) (by first | rfl | (simp; done) | (congr 1; omega)) ?_)))
            first | exact ⟨vf (fun h => by obtain ⟨h1, h2, ⟨h3, h4, h5, h6, h7, h8, h9, h10, h11, h12, h13⟩⟩ := h; first | omega | exact h7 (by assumption)), rfl⟩ | exact ⟨vb (by rw [inR_iff]; exact ⟨fun h => ⟨by omega, by omega, ⟨by omega, by omega, by omega, by omega, by assumption, by omega, by omega, by omega, by omega, by omega, by omega⟩⟩, fun h => ⟨h.2.2.u0, h.2.2.u1⟩⟩), rfl⟩
        ·
          first | have hb8n := kb_nt hb8 | have hb8n := kb_nf hb8 | have hb8n := hb8
          first | have hb8m := of_decide_eq_true hb8n | have hb8m := of_decide_eq_false hb8n | have hb8m := kb_eq hb8n | have hb8m := kb_ne hb8n | have hb8m := kb_bne hb8n | have hb8m := kb_nbne hb8n | have hb8m := isIx_t hb8n | have hb8m := isIx_f hb8n | have hb8m := inR_t hb8n | have hb8m := inR_f hb8n | have hb8m := dec_tt hb8n | have hb8m := dec_ff hb8n | have hb8m := hb8n
          try simp only [List.get_eq_getElem] at hb8n
          try simp only [List.get_eq_getElem] at hb8m
          refine kops_skip rfl rfl rfl hb8 ?_
          refine kops_skip rfl rfl rfl hb8 ?_
          refine kops_skip rfl rfl rfl hb8 ?_
          refine kops_d rfl rfl (opv_pick_f rfl rfl rfl hb8) ?_
          refine kops_d rfl rfl (opv_move rfl rfl) ?_
          refine kops_skip rfl rfl rfl rfl ?_
          refine kops_skip rfl rfl rfl rfl ?_
          refine kops_skip rfl rfl rfl rfl ?_
          refine kops_d rfl rfl (opv_pick_f rfl rfl rfl rfl) ?_
          refine kops_d rfl rfl (opv_move rfl rfl) ?_
          refine kops_skip rfl rfl rfl rfl ?_
          refine kops_skip rfl rfl rfl rfl ?_
          refine kops_skip rfl rfl rfl rfl ?_
          refine kops_d rfl rfl (opv_pick_f rfl rfl rfl rfl) ?_
          refine kops_d rfl rfl (opv_assign rfl rfl) ?_
          refine kops_nil ?_
          refine kn_then ?_
          refine kwp_ret ?_
          refine kret1 [] rfl rfl ?_ (by (repeat (first | exact Sub.refl _ | exact Sub.nil _ | refine Sub.chunk (by repeat (first | exact Pick.here | apply Pick.there)) (by first | rfl | (simp; done) | (congr 1; omega)) ?_)))
          first | exact ⟨vf (fun h => by obtain ⟨h1, h2, ⟨h3, h4, h5, h6, h7, h8, h9, h10, h11, h12, h13⟩⟩ := h; first | omega | exact h7 (by assumption)), rfl⟩ | exact ⟨vb (by rw [inR_iff]; exact ⟨fun h => ⟨by omega, by omega, ⟨by omega, by omega, by omega, by omega, by assumption, by omega, by omega, by omega, by omega, by omega, by omega⟩⟩, fun h => ⟨h.2.2.u0, h.2.2.u1⟩⟩), rfl⟩
      ·
        first | have hb6n := kb_nt hb6 | have hb6n := kb_nf hb6 | have hb6n := hb6
        first | have hb6m := of_decide_eq_true hb6n | have hb6m := of_decide_eq_false hb6n | have hb6m := kb_eq hb6n | have hb6m := kb_ne hb6n | have hb6m := kb_bne hb6n | have hb6m := kb_nbne hb6n | have hb6m := isIx_t hb6n | have hb6m := isIx_f hb6n | have hb6m := inR_t hb6n | have hb6m := inR_f hb6n | have hb6m := dec_tt hb6n | have hb6m := dec_ff hb6n | have hb6m := hb6n
        try simp only [List.get_eq_getElem] at hb6n
        try simp only [List.get_eq_getElem] at hb6m
        refine kops_skip rfl rfl rfl hb6 ?_
        refine kops_skip rfl rfl rfl hb6 ?_
        refine kops_skip rfl rfl rfl hb6 ?_
        refine kops_skip rfl rfl rfl hb6 ?_
        refine kops_skip rfl rfl rfl hb6 ?_
        refine kops_d rfl rfl (opv_pick_f rfl rfl rfl hb6) ?_
        refine kops_d rfl rfl (opv_move rfl rfl) ?_
        refine kops_skip rfl rfl rfl rfl ?_
        refine kops_skip rfl rfl rfl rfl ?_
        refine kops_skip rfl rfl rfl rfl ?_
        refine kops_d rfl rfl (opv_pick_f rfl rfl rfl rfl) ?_
        refine kops_d rfl rfl (opv_move rfl rfl) ?_
        refine kops_skip rfl rfl rfl rfl ?_
        refine kops_skip rfl rfl rfl rfl ?_
        refine kops_skip rfl rfl rfl rfl ?_
        refine kops_d rfl rfl (opv_pick_f rfl rfl rfl rfl) ?_
        refine kops_d rfl rfl (opv_move rfl rfl) ?_
        refine kops_skip rfl rfl rfl rfl ?_
        refine kops_skip rfl rfl rfl rfl ?_
        refine kops_skip rfl rfl rfl rfl ?_
        refine kops_d rfl rfl (opv_pick_f rfl rfl rfl rfl) ?_
        refine kops_d rfl rfl (opv_assign rfl rfl) ?_
        refine kops_nil ?_
        refine kn_then ?_
        refine kwp_ret ?_
        refine kret1 [] rfl rfl ?_ (by (repeat (first | exact Sub.refl _ | exact Sub.nil _ | refine Sub.chunk (by repeat (first | exact Pick.here | apply Pick.there)) (by first | rfl | (simp; done) | (congr 1; omega)) ?_)))
        first | exact ⟨vf (fun h => by obtain ⟨h1, h2, ⟨h3, h4, h5, h6, h7, h8, h9, h10, h11, h12, h13⟩⟩ := h; first | omega | exact h7 (by assumption)), rfl⟩ | exact ⟨vb (by rw [inR_iff]; exact ⟨fun h => ⟨by omega, by omega, ⟨by omega, by omega, by omega, by omega, by assumption, by omega, by omega, by omega, by omega, by omega, by omega⟩⟩, fun h => ⟨h.2.2.u0, h.2.2.u1⟩⟩), rfl⟩
    ·
      first | have hb4n := kb_nt hb4 | have hb4n := kb_nf hb4 | have hb4n := hb4
      first | have hb4m := of_decide_eq_true hb4n | have hb4m := of_decide_eq_false hb4n | have hb4m := kb_eq hb4n | have hb4m := kb_ne hb4n | have hb4m := kb_bne hb4n | have hb4m := kb_nbne hb4n | have hb4m := isIx_t hb4n | have hb4m := isIx_f hb4n | have hb4m := inR_t hb4n | have hb4m := inR_f hb4n | have hb4m := dec_tt hb4n | have hb4m := dec_ff hb4n | have hb4m := hb4n
      try simp only [List.get_eq_getElem] at hb4n
      try simp only [List.get_eq_getElem] at hb4m
      refine kops_skip rfl rfl rfl hb4 ?_
      refine kops_skip rfl rfl rfl hb4 ?_
      refine kops_skip rfl rfl rfl hb4 ?_
      refine kops_skip rfl rfl rfl hb4 ?_
      refine kops_skip rfl rfl rfl hb4 ?_
      refine kops_d rfl rfl (opv_pick_f rfl rfl rfl hb4) ?_
      refine kops_d rfl rfl (opv_move rfl rfl) ?_
      refine kops_skip rfl rfl rfl rfl ?_
      refine kops_skip rfl rfl rfl rfl ?_
      refine kops_skip rfl rfl rfl rfl ?_
      refine kops_skip rfl rfl rfl rfl ?_
      refine kops_skip rfl rfl rfl rfl ?_
      refine kops_d rfl rfl (opv_pick_f rfl rfl rfl rfl) ?_
      refine kops_d rfl rfl (opv_move rfl rfl) ?_
      refine kops_skip rfl rfl rfl rfl ?_
      refine kops_skip rfl rfl rfl rfl ?_
      refine kops_skip rfl rfl rfl rfl ?_
      refine kops_d rfl rfl (opv_pick_f rfl rfl rfl rfl) ?_
      refine kops_d rfl rfl (opv_move rfl rfl) ?_
      refine kops_skip rfl rfl rfl rfl ?_
      refine kops_skip rfl rfl rfl rfl ?_
      refine kops_skip rfl rfl rfl rfl ?_
      refine kops_d rfl rfl (opv_pick_f rfl rfl rfl rfl) ?_
      refine kops_d rfl rfl (opv_move rfl rfl) ?_
      refine kops_skip rfl rfl rfl rfl ?_
      refine kops_skip rfl rfl rfl rfl ?_
      refine kops_skip rfl rfl rfl rfl ?_
      refine kops_d rfl rfl (opv_pick_f rfl rfl rfl rfl) ?_
      refine kops_d rfl rfl (opv_assign rfl rfl) ?_
      refine kops_nil ?_
      refine kn_then ?_
      refine kwp_ret ?_
      refine kret1 [] rfl rfl ?_ (by (repeat (first | exact Sub.refl _ | exact Sub.nil _ | refine Sub.chunk (by repeat (first | exact Pick.here | apply Pick.there)) (by first | rfl | (simp; done) | (congr 1; omega)) ?_)))
      first | exact ⟨vf (fun h => by obtain ⟨h1, h2, ⟨h3, h4, h5, h6, h7, h8, h9, h10, h11, h12, h13⟩⟩ := h; first | omega | exact h7 (by assumption)), rfl⟩ | exact ⟨vb (by rw [inR_iff]; exact ⟨fun h => ⟨by omega, by omega, ⟨by omega, by omega, by omega, by omega, by assumption, by omega, by omega, by omega, by omega, by omega, by omega⟩⟩, fun h => ⟨h.2.2.u0, h.2.2.u1⟩⟩), rfl⟩
  ·
    first | have hb2n := kb_nt hb2 | have hb2n := kb_nf hb2 | have hb2n := hb2
    first | have hb2m := of_decide_eq_true hb2n | have hb2m := of_decide_eq_false hb2n | have hb2m := kb_eq hb2n | have hb2m := kb_ne hb2n | have hb2m := kb_bne hb2n | have hb2m := kb_nbne hb2n | have hb2m := isIx_t hb2n | have hb2m := isIx_f hb2n | have hb2m := inR_t hb2n | have hb2m := inR_f hb2n | have hb2m := dec_tt hb2n | have hb2m := dec_ff hb2n | have hb2m := hb2n
    try simp only [List.get_eq_getElem] at hb2n
    try simp only [List.get_eq_getElem] at hb2m
    refine kops_skip rfl rfl rfl hb2 ?_
    refine kops_skip rfl rfl rfl hb2 ?_
    refine kops_skip rfl rfl rfl hb2 ?_
    refine kops_skip rfl rfl rfl hb2 ?_
    refine kops_skip rfl rfl rfl hb2 ?_
    refine kops_d rfl rfl (opv_pick_f rfl rfl rfl hb2) ?_
    refine kops_d rfl rfl (opv_move rfl rfl) ?_
    refine kops_skip rfl rfl rfl rfl ?_
    refine kops_skip rfl rfl rfl rfl ?_
    refine kops_skip rfl rfl rfl rfl ?_
    refine kops_skip rfl rfl rfl rfl ?_
    refine kops_skip rfl rfl rfl rfl ?_
    refine kops_d rfl rfl (opv_pick_f rfl rfl rfl rfl) ?_
    refine kops_d rfl rfl (opv_move rfl rfl) ?_
    refine kops_skip rfl rfl rfl rfl ?_
    refine kops_skip rfl rfl rfl rfl ?_
    refine kops_skip rfl rfl rfl rfl ?_
    refine kops_skip rfl rfl rfl rfl ?_
    refine kops_skip rfl rfl rfl rfl ?_
    refine kops_d rfl rfl (opv_pick_f rfl rfl rfl rfl) ?_
    refine kops_d rfl rfl (opv_move rfl rfl) ?_
    refine kops_skip rfl rfl rfl rfl ?_
    refine kops_skip rfl rfl rfl rfl ?_
    refine kops_skip rfl rfl rfl rfl ?_
    refine kops_d rfl rfl (opv_pick_f rfl rfl rfl rfl) ?_
    refine kops_d rfl rfl (opv_move rfl rfl) ?_
    refine kops_skip rfl rfl rfl rfl ?_
    refine kops_skip rfl rfl rfl rfl ?_
    refine kops_skip rfl rfl rfl rfl ?_
    refine kops_d rfl rfl (opv_pick_f rfl rfl rfl rfl) ?_
    refine kops_d rfl rfl (opv_move rfl rfl) ?_
    refine kops_skip rfl rfl rfl rfl ?_
    refine kops_skip rfl rfl rfl rfl ?_
    refine kops_skip rfl rfl rfl rfl ?_
    refine kops_d rfl rfl (opv_pick_f rfl rfl rfl rfl) ?_
    refine kops_d rfl rfl (opv_assign rfl rfl) ?_
    refine kops_nil ?_
    refine kn_then ?_
    refine kwp_ret ?_
    refine kret1 [] rfl rfl ?_ (by (repeat (first | exact Sub.refl _ | exact Sub.nil _ | refine Sub.chunk (by repeat (first | exact Pick.here | apply Pick.there)) (by first | rfl | (simp; done) | (congr 1; omega)) ?_)))
    first | exact ⟨vf (fun h => by obtain ⟨h1, h2, ⟨h3, h4, h5, h6, h7, h8, h9, h10, h11, h12, h13⟩⟩ := h; first | omega | exact h7 (by assumption)), rfl⟩ | exact ⟨vb (by rw [inR_iff]; exact ⟨fun h => ⟨by omega, by omega, ⟨by omega, by omega, by omega, by omega, by assumption, by omega, by omega, by omega, by omega, by omega, by omega⟩⟩, fun h => ⟨h.2.2.u0, h.2.2.u1⟩⟩), rfl⟩

set_option maxRecDepth 20000 in
theorem c_spec_SurveyValid (st : Int) (aL : Option Addr) (nL cL : Nat) (L : List Leg) (hb : nL ≤ 9223372036854775807) :
    Triple Try.prog 85 [.agg #[.int .i64 st, .slice aL nL cL]] [⟨.slice aL nL cL, 5, L.map encLeg⟩] [] (fun r ch => r = .bool (dec (SurveyOk st L)) ∧ ch = []) := by
  refine triple_start 29 Try.func85 Try.ntmps85 rfl rfl (fun w0 => ?_)
  refine kwp_len (List.Mem.head _) (fun hnL => ?_)
  simp only [List.length_map] at hnL
  subst hnL
  refine kwp_seq ?_
  refine kwp_region ?_
  refine kops_step rfl (opk_box' (e := [_, _]) 2 rfl rfl rfl rfl (by decide) (fun p1 => ?_))
  refine kops_d rfl rfl (opv_assign rfl rfl) ?_
  refine kops_nil ?_
  refine kn_then ?_
  refine kwp_seq ?_
  refine kwp_seq ?_
  refine kwp_region ?_
  refine kops_d rfl rfl (opv_assign rfl rfl) ?_
  refine kops_nil ?_
  refine kn_then ?_
  refine kwp_block ?_
  refine kwp_loop1 (inv := [(1, _)]) (ic := [⟨.pointer (some p1), _, _⟩])
    (fun (k : Nat) => [(3, .int .i64 k)])
    (fun (k : Nat) => [])
    (fun (k : Nat) => k ≤ L.length ∧ (∀ i, i < k → 1 ≤ st ∧ st ≤ 6 ∧ LegOk st (gx L i)))
    (fun (k : Nat) => L.length - k)
    ⟨0, ⟨by (exact ⟨by omega, fun i hi => by omega⟩), by (repeat (first | exact Knows.nil _ | refine Knows.cons2 rfl (by first | rfl | (simp; done) | (congr 1; omega)) ?_)), by (repeat (first | exact Sub.refl _ | exact Sub.nil _ | refine Sub.chunk (by repeat (first | exact Pick.here | apply Pick.there)) (by first | rfl | (simp; done) | (congr 1; omega)) ?_))⟩⟩ (fun k hp => ?_)
  obtain ⟨hk, hlg⟩ := hp
  refine kwp_seq ?_
  refine kwp_seq ?_
  refine kwp_region ?_
  refine kops_d rfl rfl (opv_move rfl rfl) ?_
  refine kops_d rfl rfl (opv_fab rfl rfl fa_93_1 (by repeat (first | exact List.Mem.head _ | apply List.Mem.tail))) ?_
  refine kops_d rfl rfl (opv_load rfl rfl Try.isAgg91 (by repeat (first | exact List.Mem.head _ | apply List.Mem.tail)) (by first | rfl | exact gx_map (by omega) | exact fill_get (by omega) | (simp; done)) rfl) ?_
  refine kops_d rfl rfl (opv_len rfl rfl rfl Try.runUnderlying91) ?_
  refine kops_d rfl rfl (opv_cmp rfl rfl rfl rfl) ?_
  refine kops_nil ?_
  refine kn_then ?_
  refine kwp_cond rfl (fun hc2 => ?_) (fun hc2 => ?_)
  ·
    first | have hc2n := kb_nt hc2 | have hc2n := kb_nf hc2 | have hc2n := hc2
    first | have hc2m := of_decide_eq_true hc2n | have hc2m := of_decide_eq_false hc2n | have hc2m := kb_eq hc2n | have hc2m := kb_ne hc2n | have hc2m := kb_bne hc2n | have hc2m := kb_nbne hc2n | have hc2m := isIx_t hc2n | have hc2m := isIx_f hc2n | have hc2m := inR_t hc2n | have hc2m := inR_f hc2n | have hc2m := dec_tt hc2n | have hc2m := dec_ff hc2n | have hc2m := hc2n
    try simp only [List.get_eq_getElem] at hc2n
    try simp only [List.get_eq_getElem] at hc2m
    refine kwp_skip ?_
    refine kn_then ?_
    refine kwp_seq ?_
    refine kwp_block ?_
    refine kwp_seq ?_
    refine kwp_draw [(0, true), (1, true), (2, true), (3, true), (4, true), (5, true), (6, true), (7, false), (8, true)] [] _ drawMixed (by kernel_rfl) (fun _ _ _ h => h) (Sub.refl _) ?_
    refine ks_d rfl rfl rfl (opv_fab rfl rfl fa_93_0 (by repeat (first | exact List.Mem.head _ | apply List.Mem.tail))) ?_
    refine ks_d rfl rfl rfl (opv_load rfl rfl Try.isAgg3 (by repeat (first | exact List.Mem.head _ | apply List.Mem.tail)) (by first | rfl | exact gx_map (by omega) | exact fill_get (by omega) | (simp; done)) rfl) ?_
    refine ks_d rfl rfl rfl (opv_fab rfl rfl fa_93_1 (by repeat (first | exact List.Mem.head _ | apply List.Mem.tail))) ?_
    refine ks_d rfl rfl rfl (opv_load rfl rfl Try.isAgg91 (by repeat (first | exact List.Mem.head _ | apply List.Mem.tail)) (by first | rfl | exact gx_map (by omega) | exact fill_get (by omega) | (simp; done)) rfl) ?_
    refine ks_d rfl rfl rfl (opv_move rfl rfl) ?_
    refine ks_d rfl rfl rfl (opv_ia rfl rfl rfl Try.runUnderlying91 Try.sizeOf111 (by repeat (first | exact List.Mem.head _ | apply List.Mem.tail)) (by first | rfl | exact (Int.toNat_of_nonneg (by omega)).symm) (by first | omega | (simp only [List.length_map]; omega) | (rw [fill_len (by omega)]; omega) | (simp; omega) | (simp; done))) ?_
    refine ks_d rfl rfl rfl (opv_load_agg rfl rfl Try.isAgg111 Try.sizeOf111 (by repeat (first | exact List.Mem.head _ | apply List.Mem.tail)) (by first | rfl | exact gx_map (by omega) | exact fill_get (by omega) | (simp; done))) ?_
    refine ks_k rfl rfl (opk_call rfl Try.call88 rfl (c_spec_LegValid _ ⟨_, _, _, _, _⟩) ((perm_nil _)) ((Views.nil _)) ?_)
    rintro _ _ ⟨rfl, rfl⟩
    refine ⟨.inl (by (repeat (first | exact Sub.refl _ | exact Sub.nil _ | refine Sub.chunk (by repeat (first | exact Pick.here | apply Pick.there)) (by first | rfl | (simp; done) | (congr 1; omega)) ?_))), ?_⟩
    refine ks_d rfl rfl rfl (opv_not rfl rfl) ?_
    refine ks_nil ?_
    refine kn_then ?_
    refine kwp_cond rfl (fun hc5 => ?_) (fun hc5 => ?_)
    ·
      first | have hc5n := kb_nt hc5 | have hc5n := kb_nf hc5 | have hc5n := hc5
      first | have hc5m := of_decide_eq_true hc5n | have hc5m := of_decide_eq_false hc5n | have hc5m := kb_eq hc5n | have hc5m := kb_ne hc5n | have hc5m := kb_bne hc5n | have hc5m := kb_nbne hc5n | have hc5m := isIx_t hc5n | have hc5m := isIx_f hc5n | have hc5m := inR_t hc5n | have hc5m := inR_f hc5n | have hc5m := dec_tt hc5n | have hc5m := dec_ff hc5n | have hc5m := hc5n
      try simp only [List.get_eq_getElem] at hc5n
      try simp only [List.get_eq_getElem] at hc5m
      refine kwp_seq ?_
      refine kwp_region ?_
      refine kops_d rfl rfl (opv_assign rfl rfl) ?_
      refine kops_nil ?_
      refine kn_then ?_
      refine kwp_ret ?_
      refine kr_block ?_
      refine kr_then ?_
      refine kr_then ?_
      refine kr_block ?_
      refine kr_then ?_
      refine kret1 [] rfl rfl ?_ (by (repeat (first | exact Sub.refl _ | exact Sub.nil _ | refine Sub.chunk (by repeat (first | exact Pick.here | apply Pick.there)) (by first | rfl | (simp; done) | (congr 1; omega)) ?_)))
      first | exact ⟨vf (fun h => by have h1 := h.s1; have h2 := h.s6; omega), rfl⟩ | exact ⟨vf (fun h => absurd (show 1 ≤ st ∧ st ≤ 6 ∧ LegOk st (gx L k) from ⟨h.s1, h.s6, h.lg k (by omega)⟩) (by assumption)), rfl⟩ | exact ⟨by rw [survey_last (by omega) (by omega) (fun i hi => (hlg i (by omega)).2.2)]; exact congrArg Value.bool (decide_eq_decide.2 (by omega)), rfl⟩
    ·
      first | have hc5n := kb_nt hc5 | have hc5n := kb_nf hc5 | have hc5n := hc5
      first | have hc5m := of_decide_eq_true hc5n | have hc5m := of_decide_eq_false hc5n | have hc5m := kb_eq hc5n | have hc5m := kb_ne hc5n | have hc5m := kb_bne hc5n | have hc5m := kb_nbne hc5n | have hc5m := isIx_t hc5n | have hc5m := isIx_f hc5n | have hc5m := inR_t hc5n | have hc5m := inR_f hc5n | have hc5m := dec_tt hc5n | have hc5m := dec_ff hc5n | have hc5m := hc5n
      try simp only [List.get_eq_getElem] at hc5n
      try simp only [List.get_eq_getElem] at hc5m
      refine kwp_skip ?_
      refine kn_block ?_
      refine kn_then ?_
      refine kwp_region ?_
      refine kops_d rfl rfl (opv_move rfl rfl) ?_
      refine kops_d rfl rfl (by first | exact opv_add rfl rfl rfl ⟨by omega, by omega⟩ | exact opv_ari rfl rfl rfl rfl) ?_
      refine kops_d rfl rfl (opv_assign rfl rfl) ?_
      refine kops_nil ?_
      refine kn_then ?_
      exact ⟨k + 1, ⟨by (exact ⟨by omega, upto hlg (by assumption)⟩), by (repeat (first | exact Knows.nil _ | refine Knows.cons2 rfl (by first | rfl | (simp; done) | (congr 1; omega)) ?_)), by (repeat (first | exact Sub.refl _ | exact Sub.nil _ | refine Sub.chunk (by repeat (first | exact Pick.here | apply Pick.there)) (by first | rfl | (simp; done) | (congr 1; omega)) ?_))⟩, by omega⟩
  ·
    first | have hc2n := kb_nt hc2 | have hc2n := kb_nf hc2 | have hc2n := hc2
    first | have hc2m := of_decide_eq_true hc2n | have hc2m := of_decide_eq_false hc2n | have hc2m := kb_eq hc2n | have hc2m := kb_ne hc2n | have hc2m := kb_bne hc2n | have hc2m := kb_nbne hc2n | have hc2m := isIx_t hc2n | have hc2m := isIx_f hc2n | have hc2m := inR_t hc2n | have hc2m := inR_f hc2n | have hc2m := dec_tt hc2n | have hc2m := dec_ff hc2n | have hc2m := hc2n
    try simp only [List.get_eq_getElem] at hc2n
    try simp only [List.get_eq_getElem] at hc2m
    refine kwp_exit ?_
    refine ke_then ?_
    refine ke_then ?_
    refine ke_block ?_
    refine kn_then ?_
    refine kwp_seq ?_
    refine kwp_region ?_
    refine kops_d rfl rfl (opv_fab rfl rfl fa_93_0 (by repeat (first | exact List.Mem.head _ | apply List.Mem.tail))) ?_
    refine kops_d rfl rfl (opv_load rfl rfl Try.isAgg3 (by repeat (first | exact List.Mem.head _ | apply List.Mem.tail)) (by first | rfl | exact gx_map (by omega) | exact fill_get (by omega) | (simp; done)) rfl) ?_
    refine kops_step rfl (opk_call rfl Try.call56 rfl (c_spec_l1In _ _ _) ((perm_nil _)) ((Views.nil _)) ?_)
    rintro _ _ ⟨rfl, rfl⟩
    refine kops_d rfl rfl (opv_move rfl rfl) ?_
    refine kops_split 23 rfl (fun hb7 => ?_) (fun hb7 => ?_)
    ·
      first | have hb7n := kb_nt hb7 | have hb7n := kb_nf hb7 | have hb7n := hb7
      first | have hb7m := of_decide_eq_true hb7n | have hb7m := of_decide_eq_false hb7n | have hb7m := kb_eq hb7n | have hb7m := kb_ne hb7n | have hb7m := kb_bne hb7n | have hb7m := kb_nbne hb7n | have hb7m := isIx_t hb7n | have hb7m := isIx_f hb7n | have hb7m := inR_t hb7n | have hb7m := inR_f hb7n | have hb7m := dec_tt hb7n | have hb7m := dec_ff hb7n | have hb7m := hb7n
      try simp only [List.get_eq_getElem] at hb7n
      try simp only [List.get_eq_getElem] at hb7m
      refine kops_gd rfl rfl rfl hb7 rfl (opv_fab rfl rfl fa_93_1 (by repeat (first | exact List.Mem.head _ | apply List.Mem.tail))) ?_
      refine kops_gd rfl rfl rfl hb7 rfl (opv_load rfl rfl Try.isAgg91 (by repeat (first | exact List.Mem.head _ | apply List.Mem.tail)) (by first | rfl | exact gx_map (by omega) | exact fill_get (by omega) | (simp; done)) rfl) ?_
      refine kops_gd rfl rfl rfl hb7 rfl (opv_len rfl rfl rfl Try.runUnderlying91) ?_
      refine kops_gd rfl rfl rfl hb7 rfl (opv_cmp rfl rfl rfl rfl) ?_
      refine kops_d rfl rfl (opv_pick_t rfl rfl rfl hb7) ?_
      refine kops_d rfl rfl (opv_assign rfl rfl) ?_
      refine kops_nil ?_
      refine kn_then ?_
      refine kwp_ret ?_
      refine kret1 [] rfl rfl ?_ (by (repeat (first | exact Sub.refl _ | exact Sub.nil _ | refine Sub.chunk (by repeat (first | exact Pick.here | apply Pick.there)) (by first | rfl | (simp; done) | (congr 1; omega)) ?_)))
      first | exact ⟨vf (fun h => by have h1 := h.s1; have h2 := h.s6; omega), rfl⟩ | exact ⟨vf (fun h => absurd (show 1 ≤ st ∧ st ≤ 6 ∧ LegOk st (gx L k) from ⟨h.s1, h.s6, h.lg k (by omega)⟩) (by assumption)), rfl⟩ | exact ⟨by rw [survey_last (by omega) (by omega) (fun i hi => (hlg i (by omega)).2.2)]; exact congrArg Value.bool (decide_eq_decide.2 (by omega)), rfl⟩
    ·
      first | have hb7n := kb_nt hb7 | have hb7n := kb_nf hb7 | have hb7n := hb7
      first | have hb7m := of_decide_eq_true hb7n | have hb7m := of_decide_eq_false hb7n | have hb7m := kb_eq hb7n | have hb7m := kb_ne hb7n | have hb7m := kb_bne hb7n | have hb7m := kb_nbne hb7n | have hb7m := isIx_t hb7n | have hb7m := isIx_f hb7n | have hb7m := inR_t hb7n | have hb7m := inR_f hb7n | have hb7m := dec_tt hb7n | have hb7m := dec_ff hb7n | have hb7m := hb7n
      try simp only [List.get_eq_getElem] at hb7n
      try simp only [List.get_eq_getElem] at hb7m
      refine kops_skip rfl rfl rfl hb7 ?_
      refine kops_skip rfl rfl rfl hb7 ?_
      refine kops_skip rfl rfl rfl hb7 ?_
      refine kops_skip rfl rfl rfl hb7 ?_
      refine kops_d rfl rfl (opv_pick_f rfl rfl rfl hb7) ?_
      refine kops_d rfl rfl (opv_assign rfl rfl) ?_
      refine kops_nil ?_
      refine kn_then ?_
      refine kwp_ret ?_
      refine kret1 [] rfl rfl ?_ (by (repeat (first | exact Sub.refl _ | exact Sub.nil _ | refine Sub.chunk (by repeat (first | exact Pick.here | apply Pick.there)) (by first | rfl | (simp; done) | (congr 1; omega)) ?_)))
      first | exact ⟨vf (fun h => by have h1 := h.s1; have h2 := h.s6; omega), rfl⟩ | exact ⟨vf (fun h => absurd (show 1 ≤ st ∧ st ≤ 6 ∧ LegOk st (gx L k) from ⟨h.s1, h.s6, h.lg k (by omega)⟩) (by assumption)), rfl⟩ | exact ⟨by rw [survey_last (by omega) (by omega) (fun i hi => (hlg i (by omega)).2.2)]; exact congrArg Value.bool (decide_eq_decide.2 (by omega)), rfl⟩

set_option maxRecDepth 20000 in
theorem c_spec_Parts (st : Int) (aL : Option Addr) (nL cL : Nat) (L : List Leg) (hb : nL ≤ 1048576) :
    Triple Try.prog 86 [.agg #[.int .i64 st, .slice aL nL cL]] [⟨.slice aL nL cL, 5, L.map encLeg⟩] [] (fun r ch => ∃ a' n' c', r = .slice a' n' c' ∧ n' = (partsR st L).length ∧ ch = [⟨.slice a' n' c', 1, (partsR st L).map encI⟩]) := by
  refine triple_start 13 Try.func86 Try.ntmps86 rfl rfl (fun w0 => ?_)
  refine kwp_len (List.Mem.head _) (fun hnL => ?_)
  simp only [List.length_map] at hnL
  subst hnL
  refine kwp_seq ?_
  refine kwp_region ?_
  refine kops_step rfl (opk_box' (e := [_, _]) 2 rfl rfl rfl rfl (by decide) (fun p1 => ?_))
  refine kops_d rfl rfl (opv_assign rfl rfl) ?_
  refine kops_nil ?_
  refine kn_then ?_
  refine kwp_seq ?_
  refine kwp_seq ?_
  refine kwp_region ?_
  refine kops_d rfl rfl (opv_load_box rfl rfl Try.isAgg93 Try.sizeOf93 (by repeat (first | exact List.Mem.head _ | apply List.Mem.tail))) ?_
  refine kops_step rfl (opk_call rfl Try.call85 rfl (c_spec_SurveyValid _ _ _ _ _ (by omega)) ((perm_nil _)) (Views.cons (by repeat (first | exact List.Mem.head _ | apply List.Mem.tail)) (View.refl _) ((Views.nil _))) ?_)
  rintro _ _ ⟨rfl, rfl⟩
  refine kops_d rfl rfl (opv_not rfl rfl) ?_
  refine kops_nil ?_
  refine kn_then ?_
  refine kwp_cond rfl (fun hc3 => ?_) (fun hc3 => ?_)
  ·
    first | have hc3n := kb_nt hc3 | have hc3n := kb_nf hc3 | have hc3n := hc3
    first | have hc3m := of_decide_eq_true hc3n | have hc3m := of_decide_eq_false hc3n | have hc3m := kb_eq hc3n | have hc3m := kb_ne hc3n | have hc3m := kb_bne hc3n | have hc3m := kb_nbne hc3n | have hc3m := isIx_t hc3n | have hc3m := isIx_f hc3n | have hc3m := inR_t hc3n | have hc3m := inR_f hc3n | have hc3m := dec_tt hc3n | have hc3m := dec_ff hc3n | have hc3m := hc3n
    try simp only [List.get_eq_getElem] at hc3n
    try simp only [List.get_eq_getElem] at hc3m
    try (have hS : SurveyOk _ _ := hc3m; obtain ⟨hs1, hs6, hs9, hlg⟩ := hS)
    try have hS : SurveyOk st L := hc3m
    refine kwp_seq ?_
    refine kwp_region ?_
    refine kops_step rfl (opk_buildSlice (vs := []) rfl rfl rfl Try.runUnderlying39 Try.sizeOf3 Try.zeroValue3 rfl (by decide) (by simp [Value.cells]) (by decide) (fun a6 => ?_))
    refine kops_d rfl rfl (opv_assign rfl rfl) ?_
    refine kops_nil ?_
    refine kn_then ?_
    refine kwp_ret ?_
    refine kr_then ?_
    first
      | (refine kret1 [⟨.slice _ 0 _, 1, (partsR st L).map encI⟩] rfl rfl ?_ (by (refine Sub.chunk (by repeat (first | exact Pick.here | apply Pick.there)) (by first | (rw [partsR_f (by assumption)]; rfl) | exact congrArg (List.map encI) (by rw [partsR_t hS]; exact parts_all)) (Sub.nil _)))
         exact ⟨_, _, _, rfl, by rw [partsR_f (by assumption)]; rfl, rfl⟩
         done)
      | (refine kret1 [⟨.slice _ st.toNat _, 1, (partsR st L).map encI⟩] rfl rfl ?_ (by (refine Sub.chunk (by repeat (first | exact Pick.here | apply Pick.there)) (by first | (rw [partsR_f (by assumption)]; rfl) | exact congrArg (List.map encI) (by rw [partsR_t hS]; exact parts_all)) (Sub.nil _)))
         exact ⟨_, _, _, rfl, by rw [partsR_len hS], rfl⟩
         done)
  ·
    first | have hc3n := kb_nt hc3 | have hc3n := kb_nf hc3 | have hc3n := hc3
    first | have hc3m := of_decide_eq_true hc3n | have hc3m := of_decide_eq_false hc3n | have hc3m := kb_eq hc3n | have hc3m := kb_ne hc3n | have hc3m := kb_bne hc3n | have hc3m := kb_nbne hc3n | have hc3m := isIx_t hc3n | have hc3m := isIx_f hc3n | have hc3m := inR_t hc3n | have hc3m := inR_f hc3n | have hc3m := dec_tt hc3n | have hc3m := dec_ff hc3n | have hc3m := hc3n
    try simp only [List.get_eq_getElem] at hc3n
    try simp only [List.get_eq_getElem] at hc3m
    try (have hS : SurveyOk _ _ := hc3m; obtain ⟨hs1, hs6, hs9, hlg⟩ := hS)
    try have hS : SurveyOk st L := hc3m
    refine kwp_skip ?_
    refine kn_then ?_
    refine kwp_seq ?_
    refine kwp_draw [(0, true), (1, true), (2, true), (3, true), (4, false), (5, false), (6, true)] [] _ drawMixed (by kernel_rfl) (fun _ _ _ h => h) (Sub.refl _) ?_
    refine ks_d rfl rfl rfl (opv_load_box rfl rfl Try.isAgg93 Try.sizeOf93 (by repeat (first | exact List.Mem.head _ | apply List.Mem.tail))) ?_
    refine ks_d rfl rfl rfl (opv_fab rfl rfl fa_93_1 (by repeat (first | exact List.Mem.head _ | apply List.Mem.tail))) ?_
    refine ks_d rfl rfl rfl (opv_load rfl rfl Try.isAgg91 (by repeat (first | exact List.Mem.head _ | apply List.Mem.tail)) (by first | rfl | exact gx_map (by omega) | exact fill_get (by omega) | (simp; done)) rfl) ?_
    refine ks_d rfl rfl rfl (opv_len rfl rfl rfl Try.runUnderlying91) ?_
    refine ks_k rfl rfl (opk_call rfl Try.call87 rfl (c_spec_l1All _ ⟨by omega, by omega⟩) ((perm_nil _)) ((Views.nil _)) ?_)
    rintro _ _ ⟨a11, c11, rfl, rfl⟩
    refine ⟨.inl (by (repeat (first | exact Sub.refl _ | exact Sub.nil _ | refine Sub.chunk (by repeat (first | exact Pick.here | apply Pick.there)) (by first | rfl | (simp; done) | (congr 1; omega)) ?_))), ?_⟩
    refine ks_k rfl rfl (opk_call rfl Try.call89 rfl (c_spec_l1Parts _ _ _ _ _ _ _ _ _ hS ownL_ix ⟨by omega, by omega⟩) ((perm_nil _)) (Views.cons (by repeat (first | exact List.Mem.head _ | apply List.Mem.tail)) (View.refl _) (Views.cons (by repeat (first | exact List.Mem.head _ | apply List.Mem.tail)) (View.refl _) ((Views.nil _)))) ?_)
    rintro _ _ ⟨a12, c12, rfl, rfl⟩
    refine ⟨.inl (by (repeat (first | exact Sub.refl _ | exact Sub.nil _ | refine Sub.chunk (by repeat (first | exact Pick.here | apply Pick.there)) (by first | rfl | (simp; done) | (congr 1; omega)) ?_))), ?_⟩
    refine ks_d rfl rfl rfl (opv_assign rfl rfl) ?_
    refine ks_nil ?_
    refine kn_then ?_
    refine kwp_ret ?_
    first
      | (refine kret1 [⟨.slice _ 0 _, 1, (partsR st L).map encI⟩] rfl rfl ?_ (by (refine Sub.chunk (by repeat (first | exact Pick.here | apply Pick.there)) (by first | (rw [partsR_f (by assumption)]; rfl) | exact congrArg (List.map encI) (by rw [partsR_t hS]; exact parts_all)) (Sub.nil _)))
         exact ⟨_, _, _, rfl, by rw [partsR_f (by assumption)]; rfl, rfl⟩
         done)
      | (refine kret1 [⟨.slice _ st.toNat _, 1, (partsR st L).map encI⟩] rfl rfl ?_ (by (refine Sub.chunk (by repeat (first | exact Pick.here | apply Pick.there)) (by first | (rw [partsR_f (by assumption)]; rfl) | exact congrArg (List.map encI) (by rw [partsR_t hS]; exact parts_all)) (Sub.nil _)))
         exact ⟨_, _, _, rfl, by rw [partsR_len hS], rfl⟩
         done)

set_option maxRecDepth 20000 in
theorem c_spec_PartsMany (st : Int) (aL : Option Addr) (nL cL : Nat) (L : List Leg) (hb : nL ≤ 1048576) :
    Triple Try.prog 71 [.agg #[.int .i64 st, .slice aL nL cL]] [⟨.slice aL nL cL, 5, L.map encLeg⟩] [] (fun r ch => r = .int .i64 (partsMany st L) ∧ ch = []) := by
  refine triple_start 26 Try.func71 Try.ntmps71 rfl rfl (fun w0 => ?_)
  refine kwp_len (List.Mem.head _) (fun hnL => ?_)
  simp only [List.length_map] at hnL
  subst hnL
  refine kwp_seq ?_
  refine kwp_region ?_
  refine kops_step rfl (opk_box' (e := [_, _]) 2 rfl rfl rfl rfl (by decide) (fun p1 => ?_))
  refine kops_d rfl rfl (opv_assign rfl rfl) ?_
  refine kops_nil ?_
  refine kn_then ?_
  refine kwp_seq ?_
  refine kwp_seq ?_
  refine kwp_region ?_
  refine kops_d rfl rfl (opv_load_box rfl rfl Try.isAgg93 Try.sizeOf93 (by repeat (first | exact List.Mem.head _ | apply List.Mem.tail))) ?_
  refine kops_step rfl (opk_call rfl Try.call85 rfl (c_spec_SurveyValid _ _ _ _ _ (by omega)) ((perm_nil _)) (Views.cons (by repeat (first | exact List.Mem.head _ | apply List.Mem.tail)) (View.refl _) ((Views.nil _))) ?_)
  rintro _ _ ⟨rfl, rfl⟩
  refine kops_d rfl rfl (opv_not rfl rfl) ?_
  refine kops_nil ?_
  refine kn_then ?_
  refine kwp_cond rfl (fun hc3 => ?_) (fun hc3 => ?_)
  ·
    first | have hc3n := kb_nt hc3 | have hc3n := kb_nf hc3 | have hc3n := hc3
    first | have hc3m := of_decide_eq_true hc3n | have hc3m := of_decide_eq_false hc3n | have hc3m := kb_eq hc3n | have hc3m := kb_ne hc3n | have hc3m := kb_bne hc3n | have hc3m := kb_nbne hc3n | have hc3m := isIx_t hc3n | have hc3m := isIx_f hc3n | have hc3m := inR_t hc3n | have hc3m := inR_f hc3n | have hc3m := dec_tt hc3n | have hc3m := dec_ff hc3n | have hc3m := hc3n
    try simp only [List.get_eq_getElem] at hc3n
    try simp only [List.get_eq_getElem] at hc3m
    try (have hS : SurveyOk _ _ := hc3m; obtain ⟨hs1, hs6, hs9, hlg⟩ := hS)
    try have hS : SurveyOk st L := hc3m
    try have hcb := countTo_bd (L := partsR st L) (k := k)
    refine kwp_seq ?_
    refine kwp_region ?_
    refine kops_d rfl rfl (opv_assign rfl rfl) ?_
    refine kops_nil ?_
    refine kn_then ?_
    refine kwp_ret ?_
    refine kr_then ?_
    refine kret1 [] rfl rfl ?_ (by (repeat (first | exact Sub.refl _ | exact Sub.nil _ | refine Sub.chunk (by repeat (first | exact Pick.here | apply Pick.there)) (by first | rfl | (simp; done) | (congr 1; omega)) ?_)))
    first | exact ⟨by rw [partsMany_f (by assumption)], rfl⟩ | exact ⟨by rw [partsMany_t hS, ← partsR_t hS, show k = st.toNat by omega], rfl⟩
  ·
    first | have hc3n := kb_nt hc3 | have hc3n := kb_nf hc3 | have hc3n := hc3
    first | have hc3m := of_decide_eq_true hc3n | have hc3m := of_decide_eq_false hc3n | have hc3m := kb_eq hc3n | have hc3m := kb_ne hc3n | have hc3m := kb_bne hc3n | have hc3m := kb_nbne hc3n | have hc3m := isIx_t hc3n | have hc3m := isIx_f hc3n | have hc3m := inR_t hc3n | have hc3m := inR_f hc3n | have hc3m := dec_tt hc3n | have hc3m := dec_ff hc3n | have hc3m := hc3n
    try simp only [List.get_eq_getElem] at hc3n
    try simp only [List.get_eq_getElem] at hc3m
    try (have hS : SurveyOk _ _ := hc3m; obtain ⟨hs1, hs6, hs9, hlg⟩ := hS)
    try have hS : SurveyOk st L := hc3m
    try have hcb := countTo_bd (L := partsR st L) (k := k)
    refine kwp_skip ?_
    refine kn_then ?_
    refine kwp_seq ?_
    refine kwp_region ?_
    refine kops_d rfl rfl (opv_assign rfl rfl) ?_
    refine kops_nil ?_
    refine kn_then ?_
    refine kwp_seq ?_
    refine kwp_region ?_
    refine kops_d rfl rfl (opv_load_box rfl rfl Try.isAgg93 Try.sizeOf93 (by repeat (first | exact List.Mem.head _ | apply List.Mem.tail))) ?_
    refine kops_step rfl (opk_call rfl Try.call86 rfl (c_spec_Parts _ _ _ _ _ (by omega)) ((perm_nil _)) (Views.cons (by repeat (first | exact List.Mem.head _ | apply List.Mem.tail)) (View.refl _) ((Views.nil _))) ?_)
    rintro _ _ ⟨a10, n10, c10, rfl, hn10, rfl⟩
    refine kops_d rfl rfl (opv_assign rfl rfl) ?_
    refine kops_nil ?_
    refine kn_then ?_
    refine kwp_seq ?_
    refine kwp_seq ?_
    refine kwp_region ?_
    refine kops_d rfl rfl (opv_assign rfl rfl) ?_
    refine kops_nil ?_
    refine kn_then ?_
    refine kwp_block ?_
    have hpl := partsR_len hS
    refine kwp_loop1 (inv := [(2, _), (4, _)]) (ic := [])
      (fun (k : Nat) => [(3, .int .i64 (countTo (partsR st L) k)), (5, .int .i64 k)])
      (fun (k : Nat) => [⟨.slice a10 n10 c10, 1, (partsR st L).map encI⟩])
      (fun (k : Nat) => k ≤ n10)
      (fun (k : Nat) => n10 - k)
      ⟨0, ⟨by first | trivial | omega | (refine ⟨?_, ?_⟩ <;> omega) | (simp; done), by (repeat (first | exact Knows.nil _ | refine Knows.cons2 rfl (by first | rfl | (simp; done) | (congr 1; omega)) ?_)), by (repeat (first | exact Sub.refl _ | exact Sub.nil _ | refine Sub.chunk (by repeat (first | exact Pick.here | apply Pick.there)) (by first | rfl | (simp; done) | (congr 1; omega)) ?_))⟩⟩ (fun k hp => ?_)
    refine kwp_seq ?_
    refine kwp_seq ?_
    refine kwp_region ?_
    refine kops_d rfl rfl (opv_move rfl rfl) ?_
    refine kops_d rfl rfl (opv_move rfl rfl) ?_
    refine kops_d rfl rfl (opv_len rfl rfl rfl Try.runUnderlying39) ?_
    refine kops_d rfl rfl (opv_cmp rfl rfl rfl rfl) ?_
    refine kops_nil ?_
    refine kn_then ?_
    refine kwp_cond rfl (fun hc5 => ?_) (fun hc5 => ?_)
    ·
      first | have hc5n := kb_nt hc5 | have hc5n := kb_nf hc5 | have hc5n := hc5
      first | have hc5m := of_decide_eq_true hc5n | have hc5m := of_decide_eq_false hc5n | have hc5m := kb_eq hc5n | have hc5m := kb_ne hc5n | have hc5m := kb_bne hc5n | have hc5m := kb_nbne hc5n | have hc5m := isIx_t hc5n | have hc5m := isIx_f hc5n | have hc5m := inR_t hc5n | have hc5m := inR_f hc5n | have hc5m := dec_tt hc5n | have hc5m := dec_ff hc5n | have hc5m := hc5n
      try simp only [List.get_eq_getElem] at hc5n
      try simp only [List.get_eq_getElem] at hc5m
      try (have hS : SurveyOk _ _ := hc5m; obtain ⟨hs1, hs6, hs9, hlg⟩ := hS)
      try have hS : SurveyOk st L := hc5m
      try have hcb := countTo_bd (L := partsR st L) (k := k)
      refine kwp_skip ?_
      refine kn_then ?_
      refine kwp_seq ?_
      refine kwp_block ?_
      refine kwp_seq ?_
      refine kwp_region ?_
      refine kops_d rfl rfl (opv_move rfl rfl) ?_
      refine kops_d rfl rfl (opv_move rfl rfl) ?_
      refine kops_d rfl rfl (opv_ia rfl rfl rfl Try.runUnderlying39 Try.sizeOf3 (by repeat (first | exact List.Mem.head _ | apply List.Mem.tail)) (by first | rfl | exact (Int.toNat_of_nonneg (by omega)).symm) (by first | omega | (simp only [List.length_map]; omega) | (rw [fill_len (by omega)]; omega) | (simp; omega) | (simp; done))) ?_
      refine kops_d rfl rfl (opv_load rfl rfl Try.isAgg3 (by repeat (first | exact List.Mem.head _ | apply List.Mem.tail)) (by first | rfl | exact gx_map (by omega) | exact fill_get (by omega) | (simp; done)) rfl) ?_
      refine kops_d rfl rfl (opv_move rfl rfl) ?_
      refine kops_d rfl rfl (opv_cmp rfl rfl rfl rfl) ?_
      refine kops_nil ?_
      refine kn_then ?_
      refine kwp_cond rfl (fun hc7 => ?_) (fun hc7 => ?_)
      ·
        first | have hc7n := kb_nt hc7 | have hc7n := kb_nf hc7 | have hc7n := hc7
        first | have hc7m := of_decide_eq_true hc7n | have hc7m := of_decide_eq_false hc7n | have hc7m := kb_eq hc7n | have hc7m := kb_ne hc7n | have hc7m := kb_bne hc7n | have hc7m := kb_nbne hc7n | have hc7m := isIx_t hc7n | have hc7m := isIx_f hc7n | have hc7m := inR_t hc7n | have hc7m := inR_f hc7n | have hc7m := dec_tt hc7n | have hc7m := dec_ff hc7n | have hc7m := hc7n
        try simp only [List.get_eq_getElem] at hc7n
        try simp only [List.get_eq_getElem] at hc7m
        try (have hS : SurveyOk _ _ := hc7m; obtain ⟨hs1, hs6, hs9, hlg⟩ := hS)
        try have hS : SurveyOk st L := hc7m
        try have hcb := countTo_bd (L := partsR st L) (k := k)
        refine kwp_region ?_
        refine kops_d rfl rfl (opv_move rfl rfl) ?_
        refine kops_d rfl rfl (by first | exact opv_add rfl rfl rfl ⟨by omega, by omega⟩ | exact opv_ari rfl rfl rfl rfl) ?_
        refine kops_d rfl rfl (opv_assign rfl rfl) ?_
        refine kops_nil ?_
        refine kn_block ?_
        refine kn_then ?_
        refine kwp_region ?_
        refine kops_d rfl rfl (opv_move rfl rfl) ?_
        refine kops_d rfl rfl (by first | exact opv_add rfl rfl rfl ⟨by omega, by omega⟩ | exact opv_ari rfl rfl rfl rfl) ?_
        refine kops_d rfl rfl (opv_assign rfl rfl) ?_
        refine kops_nil ?_
        refine kn_then ?_
        exact ⟨k + 1, ⟨by first | trivial | omega | (refine ⟨?_, ?_⟩ <;> omega) | (simp; done), by (repeat (first | exact Knows.nil _ | refine Knows.cons2 rfl (by first | rfl | (congr 1; omega) | exact congrArg _ (countTo_t (by omega)) | exact congrArg _ (countTo_f (by omega))) ?_)), by (repeat (first | exact Sub.refl _ | exact Sub.nil _ | refine Sub.chunk (by repeat (first | exact Pick.here | apply Pick.there)) (by first | rfl | (congr 1; omega) | exact congrArg _ (countTo_t (by omega)) | exact congrArg _ (countTo_f (by omega))) ?_))⟩, by omega⟩
      ·
        first | have hc7n := kb_nt hc7 | have hc7n := kb_nf hc7 | have hc7n := hc7
        first | have hc7m := of_decide_eq_true hc7n | have hc7m := of_decide_eq_false hc7n | have hc7m := kb_eq hc7n | have hc7m := kb_ne hc7n | have hc7m := kb_bne hc7n | have hc7m := kb_nbne hc7n | have hc7m := isIx_t hc7n | have hc7m := isIx_f hc7n | have hc7m := inR_t hc7n | have hc7m := inR_f hc7n | have hc7m := dec_tt hc7n | have hc7m := dec_ff hc7n | have hc7m := hc7n
        try simp only [List.get_eq_getElem] at hc7n
        try simp only [List.get_eq_getElem] at hc7m
        try (have hS : SurveyOk _ _ := hc7m; obtain ⟨hs1, hs6, hs9, hlg⟩ := hS)
        try have hS : SurveyOk st L := hc7m
        try have hcb := countTo_bd (L := partsR st L) (k := k)
        refine kwp_skip ?_
        refine kn_block ?_
        refine kn_then ?_
        refine kwp_region ?_
        refine kops_d rfl rfl (opv_move rfl rfl) ?_
        refine kops_d rfl rfl (by first | exact opv_add rfl rfl rfl ⟨by omega, by omega⟩ | exact opv_ari rfl rfl rfl rfl) ?_
        refine kops_d rfl rfl (opv_assign rfl rfl) ?_
        refine kops_nil ?_
        refine kn_then ?_
        exact ⟨k + 1, ⟨by first | trivial | omega | (refine ⟨?_, ?_⟩ <;> omega) | (simp; done), by (repeat (first | exact Knows.nil _ | refine Knows.cons2 rfl (by first | rfl | (congr 1; omega) | exact congrArg _ (countTo_t (by omega)) | exact congrArg _ (countTo_f (by omega))) ?_)), by (repeat (first | exact Sub.refl _ | exact Sub.nil _ | refine Sub.chunk (by repeat (first | exact Pick.here | apply Pick.there)) (by first | rfl | (congr 1; omega) | exact congrArg _ (countTo_t (by omega)) | exact congrArg _ (countTo_f (by omega))) ?_))⟩, by omega⟩
    ·
      first | have hc5n := kb_nt hc5 | have hc5n := kb_nf hc5 | have hc5n := hc5
      first | have hc5m := of_decide_eq_true hc5n | have hc5m := of_decide_eq_false hc5n | have hc5m := kb_eq hc5n | have hc5m := kb_ne hc5n | have hc5m := kb_bne hc5n | have hc5m := kb_nbne hc5n | have hc5m := isIx_t hc5n | have hc5m := isIx_f hc5n | have hc5m := inR_t hc5n | have hc5m := inR_f hc5n | have hc5m := dec_tt hc5n | have hc5m := dec_ff hc5n | have hc5m := hc5n
      try simp only [List.get_eq_getElem] at hc5n
      try simp only [List.get_eq_getElem] at hc5m
      try (have hS : SurveyOk _ _ := hc5m; obtain ⟨hs1, hs6, hs9, hlg⟩ := hS)
      try have hS : SurveyOk st L := hc5m
      try have hcb := countTo_bd (L := partsR st L) (k := k)
      refine kwp_exit ?_
      refine ke_then ?_
      refine ke_then ?_
      refine ke_block ?_
      refine kn_then ?_
      refine kwp_seq ?_
      refine kwp_region ?_
      refine kops_d rfl rfl (opv_move rfl rfl) ?_
      refine kops_d rfl rfl (opv_assign rfl rfl) ?_
      refine kops_nil ?_
      refine kn_then ?_
      refine kwp_ret ?_
      refine kret1 [] rfl rfl ?_ (by (repeat (first | exact Sub.refl _ | exact Sub.nil _ | refine Sub.chunk (by repeat (first | exact Pick.here | apply Pick.there)) (by first | rfl | (simp; done) | (congr 1; omega)) ?_)))
      first | exact ⟨by rw [partsMany_f (by assumption)], rfl⟩ | exact ⟨by rw [partsMany_t hS, ← partsR_t hS, show k = st.toNat by omega], rfl⟩

set_option maxRecDepth 20000 in
theorem c_spec_AirLinked (p : Int) (a : Option Addr) (n c : Nat) (l : List Airway) (hb : n ≤ 1048576) :
    Triple Try.prog 42 [.agg #[.int .i64 p, .slice a n c]] [⟨.slice a n c, 3, l.map encAirway⟩] [] (fun r ch => r = .bool (dec (AirLinkedP p l)) ∧ ch = []) := by
  refine triple_start 11 Try.func42 Try.ntmps42 rfl rfl (fun w0 => ?_)
  refine kwp_len (List.Mem.head _) (fun hn => ?_)
  simp only [List.length_map] at hn
  subst hn
  refine kwp_seq ?_
  refine kwp_region ?_
  refine kops_step rfl (opk_box' (e := [_, _]) 2 rfl rfl rfl rfl (by decide) (fun p1 => ?_))
  refine kops_d rfl rfl (opv_assign rfl rfl) ?_
  refine kops_nil ?_
  refine kn_then ?_
  refine kwp_seq ?_
  refine kwp_region ?_
  refine kops_d rfl rfl (opv_load_box rfl rfl Try.isAgg35 Try.sizeOf35 (by repeat (first | exact List.Mem.head _ | apply List.Mem.tail))) ?_
  refine kops_step rfl (opk_call rfl Try.call19 rfl (c_spec_MineValid _ _ _ _ _ (by omega)) ((perm_nil _)) (Views.cons (by repeat (first | exact List.Mem.head _ | apply List.Mem.tail)) (View.refl _) ((Views.nil _))) ?_)
  rintro _ _ ⟨rfl, rfl⟩
  refine kops_d rfl rfl (opv_move rfl rfl) ?_
  refine kops_split 5 rfl (fun hb2 => ?_) (fun hb2 => ?_)
  ·
    first | have hb2n := kb_nt hb2 | have hb2n := kb_nf hb2 | have hb2n := hb2
    first | have hb2m := of_decide_eq_true hb2n | have hb2m := of_decide_eq_false hb2n | have hb2m := kb_eq hb2n | have hb2m := kb_ne hb2n | have hb2m := kb_bne hb2n | have hb2m := kb_nbne hb2n | have hb2m := isIx_t hb2n | have hb2m := isIx_f hb2n | have hb2m := inR_t hb2n | have hb2m := inR_f hb2n | have hb2m := dec_tt hb2n | have hb2m := dec_ff hb2n | have hb2m := hb2n
    try simp only [List.get_eq_getElem] at hb2n
    try simp only [List.get_eq_getElem] at hb2m
    try have hM : MineOk _ _ := hb2m
    refine kops_gd rfl rfl rfl hb2 rfl (opv_load_box rfl rfl Try.isAgg35 Try.sizeOf35 (by repeat (first | exact List.Mem.head _ | apply List.Mem.tail))) ?_
    refine kops_gk rfl rfl rfl hb2 (opk_call rfl Try.call72 rfl (c_spec_l3Survey _ _ _ _ _ (by omega)) ((perm_nil _)) (Views.cons (by repeat (first | exact List.Mem.head _ | apply List.Mem.tail)) (View.refl _) ((Views.nil _))) ?_)
    rintro _ _ ⟨a7, c7, rfl, rfl⟩
    refine kops_gk rfl rfl rfl hb2 (opk_call rfl Try.call71 rfl (c_spec_PartsMany _ _ _ _ _ (by omega)) ((perm_nil _)) (Views.cons (by repeat (first | exact List.Mem.head _ | apply List.Mem.tail)) (View.refl _) ((Views.nil _))) ?_)
    rintro _ _ ⟨rfl, rfl⟩
    refine kops_gd rfl rfl rfl hb2 rfl (opv_cmp rfl rfl rfl rfl) ?_
    refine kops_d rfl rfl (opv_pick_t rfl rfl rfl hb2) ?_
    refine kops_d rfl rfl (opv_assign rfl rfl) ?_
    refine kops_nil ?_
    refine kn_then ?_
    refine kwp_ret ?_
    refine kret1 [] rfl rfl ?_ (by (repeat (first | exact Sub.refl _ | exact Sub.nil _ | refine Sub.chunk (by repeat (first | exact Pick.here | apply Pick.there)) (by first | rfl | (simp; done) | (congr 1; omega)) ?_)))
    first | exact ⟨vf (fun h => absurd h.ok (by assumption)), rfl⟩ | exact ⟨by rw [airLinked_eq2 hM], rfl⟩
  ·
    first | have hb2n := kb_nt hb2 | have hb2n := kb_nf hb2 | have hb2n := hb2
    first | have hb2m := of_decide_eq_true hb2n | have hb2m := of_decide_eq_false hb2n | have hb2m := kb_eq hb2n | have hb2m := kb_ne hb2n | have hb2m := kb_bne hb2n | have hb2m := kb_nbne hb2n | have hb2m := isIx_t hb2n | have hb2m := isIx_f hb2n | have hb2m := inR_t hb2n | have hb2m := inR_f hb2n | have hb2m := dec_tt hb2n | have hb2m := dec_ff hb2n | have hb2m := hb2n
    try simp only [List.get_eq_getElem] at hb2n
    try simp only [List.get_eq_getElem] at hb2m
    try have hM : MineOk _ _ := hb2m
    refine kops_skip rfl rfl rfl hb2 ?_
    refine kops_skip rfl rfl rfl hb2 ?_
    refine kops_skip rfl rfl rfl hb2 ?_
    refine kops_skip rfl rfl rfl hb2 ?_
    refine kops_d rfl rfl (opv_pick_f rfl rfl rfl hb2) ?_
    refine kops_d rfl rfl (opv_assign rfl rfl) ?_
    refine kops_nil ?_
    refine kn_then ?_
    refine kwp_ret ?_
    refine kret1 [] rfl rfl ?_ (by (repeat (first | exact Sub.refl _ | exact Sub.nil _ | refine Sub.chunk (by repeat (first | exact Pick.here | apply Pick.there)) (by first | rfl | (simp; done) | (congr 1; omega)) ?_)))
    first | exact ⟨vf (fun h => absurd h.ok (by assumption)), rfl⟩ | exact ⟨by rw [airLinked_eq2 hM], rfl⟩

set_option maxRecDepth 20000 in
theorem c_laws_FnExactAirLinked (p : Int) (a : Option Addr) (n c : Nat) (l : List Airway) (hb : n ≤ 9223372036854775807) (hp : -9223372036854775808 ≤ p ∧ p ≤ 9223372036854775807) :
    Triple Try.prog 11 [.agg #[.int .i64 p, .slice a n c]] [⟨.slice a n c, 3, l.map encAirway⟩] [] (fun r ch => r = .bool true ∧ ch = []) := by
  refine triple_start 27 Try.func11 Try.ntmps11 rfl rfl (fun w0 => ?_)
  refine kwp_len (List.Mem.head _) (fun hn => ?_)
  simp only [List.length_map] at hn
  subst hn
  refine kwp_seq ?_
  refine kwp_region ?_
  refine kops_step rfl (opk_box' (e := [_, _]) 2 rfl rfl rfl rfl (by decide) (fun p1 => ?_))
  refine kops_d rfl rfl (opv_assign rfl rfl) ?_
  refine kops_nil ?_
  refine kn_then ?_
  refine kwp_seq ?_
  refine kwp_region ?_
  refine kops_d rfl rfl (opv_assign rfl rfl) ?_
  refine kops_nil ?_
  refine kn_then ?_
  refine kwp_seq ?_
  refine kwp_region ?_
  refine kops_d rfl rfl (opv_load_box rfl rfl Try.isAgg30 Try.sizeOf30 (by repeat (first | exact List.Mem.head _ | apply List.Mem.tail))) ?_
  refine kops_d rfl rfl (opv_move rfl rfl) ?_
  refine kops_step rfl (opk_call rfl Try.call18 rfl (c_laws_szMine _ _ _ _ _ ⟨by omega, by omega⟩ (by omega)) ((perm_nil _)) ((Views.nil _)) ?_)
  rintro _ _ ⟨x9, rfl, hl9, hg9, hx9, rfl⟩
  refine kops_d rfl rfl (opv_assign rfl rfl) ?_
  refine kops_nil ?_
  refine kn_then ?_
  refine kwp_seq ?_
  refine kwp_seq ?_
  refine kwp_region ?_
  refine kops_d rfl rfl (opv_move rfl rfl) ?_
  refine kops_d rfl rfl (opv_cmp rfl rfl rfl rfl) ?_
  refine kops_nil ?_
  refine kn_then ?_
  refine kwp_cond rfl (fun hc2 => ?_) (fun hc2 => ?_)
  ·
    first | have hc2n := kb_nt hc2 | have hc2n := kb_nf hc2 | have hc2n := hc2
    first | have hc2m := of_decide_eq_true hc2n | have hc2m := of_decide_eq_false hc2n | have hc2m := kb_eq hc2n | have hc2m := kb_ne hc2n | have hc2m := kb_bne hc2n | have hc2m := kb_nbne hc2n | have hc2m := isIx_t hc2n | have hc2m := isIx_f hc2n | have hc2m := inR_t hc2n | have hc2m := inR_f hc2n | have hc2m := dec_tt hc2n | have hc2m := dec_ff hc2n | have hc2m := hc2n
    try simp only [List.get_eq_getElem] at hc2n
    try simp only [List.get_eq_getElem] at hc2m
    try (exfalso; simp_all; done; done)
    all_goals
      refine kwp_seq ?_
      refine kwp_region ?_
      refine kops_d rfl rfl (opv_assign rfl rfl) ?_
      refine kops_nil ?_
      refine kn_then ?_
      refine kwp_ret ?_
      refine kr_then ?_
      refine kret1 [] rfl rfl ?_ (by (repeat (first | exact Sub.refl _ | exact Sub.nil _ | refine Sub.chunk (by repeat (first | exact Pick.here | apply Pick.there)) (by first | rfl | (simp; done) | (congr 1; omega)) ?_)))
      exact ⟨rfl, rfl⟩
  ·
    first | have hc2n := kb_nt hc2 | have hc2n := kb_nf hc2 | have hc2n := hc2
    first | have hc2m := of_decide_eq_true hc2n | have hc2m := of_decide_eq_false hc2n | have hc2m := kb_eq hc2n | have hc2m := kb_ne hc2n | have hc2m := kb_bne hc2n | have hc2m := kb_nbne hc2n | have hc2m := isIx_t hc2n | have hc2m := isIx_f hc2n | have hc2m := inR_t hc2n | have hc2m := inR_f hc2n | have hc2m := dec_tt hc2n | have hc2m := dec_ff hc2n | have hc2m := hc2n
    try simp only [List.get_eq_getElem] at hc2n
    try simp only [List.get_eq_getElem] at hc2m
    try (exfalso; simp_all; done; done)
    all_goals
      refine kwp_skip ?_
      refine kn_then ?_
      refine kwp_seq ?_
      refine kwp_region ?_
      refine kops_d rfl rfl (opv_load_box rfl rfl Try.isAgg30 Try.sizeOf30 (by repeat (first | exact List.Mem.head _ | apply List.Mem.tail))) ?_
      refine kops_step rfl (opk_call rfl Try.call20 rfl (c_laws_toMine _ _ _ _ _ (by omega)) ((perm_nil _)) (Views.cons (by repeat (first | exact List.Mem.head _ | apply List.Mem.tail)) (View.refl _) ((Views.nil _))) ?_)
      rintro _ _ ⟨a13, c13, rfl, rfl⟩
      refine kops_step rfl (opk_call rfl Try.call42 rfl (c_spec_AirLinked _ _ _ _ _ (by omega)) ((perm_nil _)) (Views.cons (by repeat (first | exact List.Mem.head _ | apply List.Mem.tail)) (View.refl _) ((Views.nil _))) ?_)
      rintro _ _ ⟨rfl, rfl⟩
      refine kops_d rfl rfl (opv_assign rfl rfl) ?_
      refine kops_nil ?_
      refine kn_then ?_
      refine kwp_seq ?_
      refine kwp_region ?_
      refine kops_d rfl rfl (opv_load_box rfl rfl Try.isAgg30 Try.sizeOf30 (by repeat (first | exact List.Mem.head _ | apply List.Mem.tail))) ?_
      refine kops_step rfl (opk_call rfl Try.call20 rfl (c_laws_toMine _ _ _ _ _ (by omega)) ((perm_nil _)) (Views.cons (by repeat (first | exact List.Mem.head _ | apply List.Mem.tail)) (View.refl _) ((Views.nil _))) ?_)
      rintro _ _ ⟨a16, c16, rfl, rfl⟩
      refine kops_step rfl (opk_alloc' (e := [_, _]) 2 rfl Try.zeroValue35 rfl rfl (by decide) (fun p5 => ?_))
      refine kops_step rfl (opk_store_box (e' := [_, _]) rfl rfl rfl Try.sizeOf35 rfl (by first | exact one_aw | exact one_leg | exact one_lit _ rfl | exact one_int | exact one_sill | decide | (simp [Value.oneCell']; done) | (intro x hx; simp at hx; rcases hx with rfl | rfl | rfl | rfl | rfl <;> rfl)) rfl (by repeat (first | exact Upd.here | apply Upd.there)) ?_)
      refine kops_nil ?_
      refine kn_then ?_
      refine kwp_seq ?_
      refine kwp_region ?_
      refine kops_d rfl rfl (opv_load_box rfl rfl Try.isAgg35 Try.sizeOf35 (by repeat (first | exact List.Mem.head _ | apply List.Mem.tail))) ?_
      refine kops_step rfl (opk_call rfl Try.call43 rfl (c_impl_AirLinked _ _ _ _ _ (by omega)) ((perm_nil _)) (Views.cons (by repeat (first | exact List.Mem.head _ | apply List.Mem.tail)) (View.refl _) ((Views.nil _))) ?_)
      rintro _ _ ⟨rfl, rfl⟩
      refine kops_d rfl rfl (opv_assign rfl rfl) ?_
      refine kops_nil ?_
      refine kn_then ?_
      refine kwp_seq ?_
      refine kwp_seq ?_
      refine kwp_region ?_
      refine kops_d rfl rfl (opv_move rfl rfl) ?_
      refine kops_d rfl rfl (opv_move rfl rfl) ?_
      refine kops_d rfl rfl (opv_neb rfl rfl rfl Try.underlying4) ?_
      refine kops_nil ?_
      refine kn_then ?_
      refine kwp_cond rfl (fun hc6 => ?_) (fun hc6 => ?_)
      ·
        first | have hc6n := kb_nt hc6 | have hc6n := kb_nf hc6 | have hc6n := hc6
        first | have hc6m := of_decide_eq_true hc6n | have hc6m := of_decide_eq_false hc6n | have hc6m := kb_eq hc6n | have hc6m := kb_ne hc6n | have hc6m := kb_bne hc6n | have hc6m := kb_nbne hc6n | have hc6m := isIx_t hc6n | have hc6m := isIx_f hc6n | have hc6m := inR_t hc6n | have hc6m := inR_f hc6n | have hc6m := dec_tt hc6n | have hc6m := dec_ff hc6n | have hc6m := hc6n
        try simp only [List.get_eq_getElem] at hc6n
        try simp only [List.get_eq_getElem] at hc6m
        try (exfalso; simp_all; done; done)
        all_goals
          refine kwp_seq ?_
          refine kwp_region ?_
          refine kops_d rfl rfl (opv_assign rfl rfl) ?_
          refine kops_nil ?_
          refine kn_then ?_
          refine kwp_ret ?_
          refine kr_then ?_
          refine kret1 [] rfl rfl ?_ (by (repeat (first | exact Sub.refl _ | exact Sub.nil _ | refine Sub.chunk (by repeat (first | exact Pick.here | apply Pick.there)) (by first | rfl | (simp; done) | (congr 1; omega)) ?_)))
          exact ⟨rfl, rfl⟩
      ·
        first | have hc6n := kb_nt hc6 | have hc6n := kb_nf hc6 | have hc6n := hc6
        first | have hc6m := of_decide_eq_true hc6n | have hc6m := of_decide_eq_false hc6n | have hc6m := kb_eq hc6n | have hc6m := kb_ne hc6n | have hc6m := kb_bne hc6n | have hc6m := kb_nbne hc6n | have hc6m := isIx_t hc6n | have hc6m := isIx_f hc6n | have hc6m := inR_t hc6n | have hc6m := inR_f hc6n | have hc6m := dec_tt hc6n | have hc6m := dec_ff hc6n | have hc6m := hc6n
        try simp only [List.get_eq_getElem] at hc6n
        try simp only [List.get_eq_getElem] at hc6m
        try (exfalso; simp_all; done; done)
        all_goals
          refine kwp_skip ?_
          refine kn_then ?_
          refine kwp_seq ?_
          refine kwp_seq ?_
          refine kwp_draw [(0, true), (1, true), (2, false), (3, false), (4, true)] [] _ drawMixed (by kernel_rfl) (fun _ _ _ h => h) (Sub.refl _) ?_
          refine ks_d rfl rfl rfl (opv_load_box rfl rfl Try.isAgg35 Try.sizeOf35 (by repeat (first | exact List.Mem.head _ | apply List.Mem.tail))) ?_
          refine ks_d rfl rfl rfl (opv_load_box rfl rfl Try.isAgg30 Try.sizeOf30 (by repeat (first | exact List.Mem.head _ | apply List.Mem.tail))) ?_
          refine ks_k rfl rfl (opk_call rfl Try.call20 rfl (c_laws_toMine _ _ _ _ _ (by omega)) ((perm_nil _)) (Views.cons (by repeat (first | exact List.Mem.head _ | apply List.Mem.tail)) (View.refl _) ((Views.nil _))) ?_)
          rintro _ _ ⟨a24, c24, rfl, rfl⟩
          refine ⟨.inl (by (repeat (first | exact Sub.refl _ | exact Sub.nil _ | refine Sub.chunk (by repeat (first | exact Pick.here | apply Pick.there)) (by first | rfl | (simp; done) | (congr 1; omega)) ?_))), ?_⟩
          refine ks_k rfl rfl (opk_call rfl Try.call22 rfl (c_laws_eqMine _ _ _ _ _ _ _ _ _ _ ⟨by omega, by omega⟩) ((perm_nil _)) (Views.cons (by repeat (first | exact List.Mem.head _ | apply List.Mem.tail)) (View.refl _) (Views.cons (by repeat (first | exact List.Mem.head _ | apply List.Mem.tail)) (View.refl _) ((Views.nil _)))) ?_)
          rintro _ _ ⟨rfl, rfl⟩
          refine ⟨.inl (by (repeat (first | exact Sub.refl _ | exact Sub.nil _ | refine Sub.chunk (by repeat (first | exact Pick.here | apply Pick.there)) (by first | rfl | (simp; done) | (congr 1; omega)) ?_))), ?_⟩
          refine ks_d rfl rfl rfl (opv_not rfl rfl) ?_
          refine ks_nil ?_
          refine kn_then ?_
          refine kwp_cond rfl (fun hc9 => ?_) (fun hc9 => ?_)
          ·
            first | have hc9n := kb_nt hc9 | have hc9n := kb_nf hc9 | have hc9n := hc9
            first | have hc9m := of_decide_eq_true hc9n | have hc9m := of_decide_eq_false hc9n | have hc9m := kb_eq hc9n | have hc9m := kb_ne hc9n | have hc9m := kb_bne hc9n | have hc9m := kb_nbne hc9n | have hc9m := isIx_t hc9n | have hc9m := isIx_f hc9n | have hc9m := inR_t hc9n | have hc9m := inR_f hc9n | have hc9m := dec_tt hc9n | have hc9m := dec_ff hc9n | have hc9m := hc9n
            try simp only [List.get_eq_getElem] at hc9n
            try simp only [List.get_eq_getElem] at hc9m
            try (exfalso; simp_all; done; done)
            all_goals
              refine kwp_seq ?_
              refine kwp_region ?_
              refine kops_d rfl rfl (opv_assign rfl rfl) ?_
              refine kops_nil ?_
              refine kn_then ?_
              refine kwp_ret ?_
              refine kr_then ?_
              refine kret1 [] rfl rfl ?_ (by (repeat (first | exact Sub.refl _ | exact Sub.nil _ | refine Sub.chunk (by repeat (first | exact Pick.here | apply Pick.there)) (by first | rfl | (simp; done) | (congr 1; omega)) ?_)))
              exact ⟨rfl, rfl⟩
          ·
            first | have hc9n := kb_nt hc9 | have hc9n := kb_nf hc9 | have hc9n := hc9
            first | have hc9m := of_decide_eq_true hc9n | have hc9m := of_decide_eq_false hc9n | have hc9m := kb_eq hc9n | have hc9m := kb_ne hc9n | have hc9m := kb_bne hc9n | have hc9m := kb_nbne hc9n | have hc9m := isIx_t hc9n | have hc9m := isIx_f hc9n | have hc9m := inR_t hc9n | have hc9m := inR_f hc9n | have hc9m := dec_tt hc9n | have hc9m := dec_ff hc9n | have hc9m := hc9n
            try simp only [List.get_eq_getElem] at hc9n
            try simp only [List.get_eq_getElem] at hc9m
            try (exfalso; simp_all; done; done)
            all_goals
              refine kwp_skip ?_
              refine kn_then ?_
              refine kwp_seq ?_
              refine kwp_region ?_
              refine kops_d rfl rfl (opv_assign rfl rfl) ?_
              refine kops_nil ?_
              refine kn_then ?_
              refine kwp_ret ?_
              refine kret1 [] rfl rfl ?_ (by (repeat (first | exact Sub.refl _ | exact Sub.nil _ | refine Sub.chunk (by repeat (first | exact Pick.here | apply Pick.there)) (by first | rfl | (simp; done) | (congr 1; omega)) ?_)))
              exact ⟨rfl, rfl⟩

end Go.Proofs.Ytfgialdcilldiaa
