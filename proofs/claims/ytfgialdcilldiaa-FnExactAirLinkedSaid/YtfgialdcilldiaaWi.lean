/- The walks of some functions, each by its contract; conditions: those that each contract names. -/
import Derived.Test.YtfgialdcilldiaaWh
namespace Go.Proofs.Ytfgialdcilldiaa
open Go
set_option linter.unusedVariables false
set_option linter.unusedSimpArgs false


set_option maxRecDepth 20000 in
theorem c_laws_FnExactWiden (p : Int) (a : Option Addr) (n c : Nat) (l : List Airway) (i : Int) (hb : n ≤ 9223372036854775807) (hp : -9223372036854775808 ≤ p ∧ p ≤ 9223372036854775807) :
    Triple Try.prog 7 [.agg #[.int .i64 p, .slice a n c], .int .i64 i] [⟨.slice a n c, 3, l.map encAirway⟩] [] (fun r ch => r = .bool true ∧ ch = []) := by
  refine triple_start 101 Try.func7 Try.ntmps7 rfl rfl (fun w0 => ?_)
  refine kwp_len (List.Mem.head _) (fun hn => ?_)
  simp only [List.length_map] at hn
  subst hn
  refine kwp_seq ?_
  refine kwp_region ?_
  refine kops_step rfl (opk_box' (e := [_, _]) 2 rfl rfl rfl rfl (by decide) (fun p2 => ?_))
  refine kops_d rfl rfl (opv_assign rfl rfl) ?_
  refine kops_nil ?_
  refine kn_then ?_
  refine kwp_seq ?_
  refine kwp_region ?_
  refine kops_d rfl rfl (opv_assign rfl rfl) ?_
  refine kops_nil ?_
  refine kn_then ?_
  refine kwp_seq ?_
  refine kwp_region ?_
  refine kops_d rfl rfl (opv_load_box rfl rfl Try.isAgg30 Try.sizeOf30 (by repeat (first | exact List.Mem.head _ | apply List.Mem.tail))) ?_
  refine kops_d rfl rfl (opv_move rfl rfl) ?_
  refine kops_step rfl (opk_call rfl Try.call18 rfl (c_laws_szMine _ _ _ _ _ ⟨by omega, by omega⟩ (by omega)) ((perm_nil _)) ((Views.nil _)) ?_)
  rintro _ _ ⟨x18, rfl, hl18, hg18, hx18, rfl⟩
  refine kops_d rfl rfl (opv_assign rfl rfl) ?_
  refine kops_nil ?_
  refine kn_then ?_
  refine kwp_seq ?_
  refine kwp_seq ?_
  refine kwp_region ?_
  refine kops_d rfl rfl (opv_move rfl rfl) ?_
  refine kops_d rfl rfl (opv_cmp rfl rfl rfl rfl) ?_
  refine kops_nil ?_
  refine kn_then ?_
  refine kwp_cond rfl (fun hc2 => ?_) (fun hc2 => ?_)
  ·
    first | have hc2n := kb_nt hc2 | have hc2n := kb_nf hc2 | have hc2n := hc2
    first | have hc2m := of_decide_eq_true hc2n | have hc2m := of_decide_eq_false hc2n | have hc2m := kb_eq hc2n | have hc2m := kb_ne hc2n | have hc2m := kb_bne hc2n | have hc2m := kb_nbne hc2n | have hc2m := isIx_t hc2n | have hc2m := isIx_f hc2n | have hc2m := inR_t hc2n | have hc2m := inR_f hc2n | have hc2m := dec_tt hc2n | have hc2m := dec_ff hc2n | have hc2m := hc2n
    try simp only [List.get_eq_getElem] at hc2n
    try simp only [List.get_eq_getElem] at hc2m
    try (exfalso; first | omega | (simp_all; done); done)
    all_goals
      refine kwp_seq ?_
      refine kwp_region ?_
      refine kops_d rfl rfl (opv_assign rfl rfl) ?_
      refine kops_nil ?_
      refine kn_then ?_
      refine kwp_ret ?_
      refine kr_then ?_
      refine kret1 [] rfl rfl ?_ (by (repeat (first | exact Sub.refl _ | exact Sub.nil _ | refine Sub.chunk (by repeat (first | exact Pick.here | apply Pick.there)) (by first | rfl | (simp; done) | (congr 1; omega)) ?_)))
      exact ⟨rfl, rfl⟩
  ·
    first | have hc2n := kb_nt hc2 | have hc2n := kb_nf hc2 | have hc2n := hc2
    first | have hc2m := of_decide_eq_true hc2n | have hc2m := of_decide_eq_false hc2n | have hc2m := kb_eq hc2n | have hc2m := kb_ne hc2n | have hc2m := kb_bne hc2n | have hc2m := kb_nbne hc2n | have hc2m := isIx_t hc2n | have hc2m := isIx_f hc2n | have hc2m := inR_t hc2n | have hc2m := inR_f hc2n | have hc2m := dec_tt hc2n | have hc2m := dec_ff hc2n | have hc2m := hc2n
    try simp only [List.get_eq_getElem] at hc2n
    try simp only [List.get_eq_getElem] at hc2m
    try (exfalso; first | omega | (simp_all; done); done)
    all_goals
      refine kwp_skip ?_
      refine kn_then ?_
      refine kwp_seq ?_
      refine kwp_region ?_
      refine kops_d rfl rfl (opv_load_box rfl rfl Try.isAgg30 Try.sizeOf30 (by repeat (first | exact List.Mem.head _ | apply List.Mem.tail))) ?_
      refine kops_step rfl (opk_call rfl Try.call20 rfl (c_laws_toMine _ _ _ _ _ (by omega)) ((perm_nil _)) (Views.cons (by repeat (first | exact List.Mem.head _ | apply List.Mem.tail)) (View.refl _) ((Views.nil _))) ?_)
      rintro _ _ ⟨a23, c23, rfl, rfl⟩
      refine kops_d rfl rfl (opv_move rfl rfl) ?_
      refine kops_step rfl (opk_call rfl Try.call32 rfl (c_spec_Widen _ _ _ _ _ _ (by omega)) ((perm_nil _)) (Views.cons (by repeat (first | exact List.Mem.head _ | apply List.Mem.tail)) (View.refl _) ((Views.nil _))) ?_)
      rintro _ _ ⟨a25, n25, c25, rfl, hn25, rfl⟩
      refine kops_d rfl rfl (opv_move rfl rfl) ?_
      refine kops_d rfl rfl (opv_extract rfl rfl rfl) ?_
      refine kops_d rfl rfl (opv_extract rfl rfl rfl) ?_
      refine kops_step rfl (opk_alloc' (e := [_, _]) 2 rfl Try.zeroValue35 rfl rfl (by decide) (fun p6 => ?_))
      refine kops_step rfl (opk_store_box (e' := [_, _]) rfl rfl rfl Try.sizeOf35 rfl (by first | exact one_aw | exact one_int | exact one_sill | decide | (simp [Value.oneCell']; done) | (intro x hx; simp at hx; rcases hx with rfl | rfl | rfl | rfl | rfl <;> rfl)) rfl (by repeat (first | exact Upd.here | apply Upd.there)) ?_)
      refine kops_d rfl rfl (opv_assign rfl rfl) ?_
      refine kops_nil ?_
      refine kn_then ?_
      refine kwp_seq ?_
      refine kwp_region ?_
      refine kops_d rfl rfl (opv_load_box rfl rfl Try.isAgg30 Try.sizeOf30 (by repeat (first | exact List.Mem.head _ | apply List.Mem.tail))) ?_
      refine kops_step rfl (opk_call rfl Try.call20 rfl (c_laws_toMine _ _ _ _ _ (by omega)) ((perm_nil _)) (Views.cons (by repeat (first | exact List.Mem.head _ | apply List.Mem.tail)) (View.refl _) ((Views.nil _))) ?_)
      rintro _ _ ⟨a29, c29, rfl, rfl⟩
      refine kops_step rfl (opk_alloc' (e := [_, _]) 2 rfl Try.zeroValue35 rfl rfl (by decide) (fun p8 => ?_))
      refine kops_step rfl (opk_store_box (e' := [_, _]) rfl rfl rfl Try.sizeOf35 rfl (by first | exact one_aw | exact one_int | exact one_sill | decide | (simp [Value.oneCell']; done) | (intro x hx; simp at hx; rcases hx with rfl | rfl | rfl | rfl | rfl <;> rfl)) rfl (by repeat (first | exact Upd.here | apply Upd.there)) ?_)
      refine kops_nil ?_
      refine kn_then ?_
      refine kwp_seq ?_
      refine kwp_region ?_
      refine kops_d rfl rfl (opv_load_box rfl rfl Try.isAgg35 Try.sizeOf35 (by repeat (first | exact List.Mem.head _ | apply List.Mem.tail))) ?_
      refine kops_d rfl rfl (opv_move rfl rfl) ?_
      refine kops_step rfl (opk_call rfl Try.call33 rfl (c_impl_Widen _ _ _ _ _ _ (by omega)) ((perm_nil _)) (Views.cons (by repeat (first | exact List.Mem.head _ | apply List.Mem.tail)) (View.refl _) ((Views.nil _))) ?_)
      rintro _ _ ⟨a33, n33, c33, rfl, hn33, rfl⟩
      refine kops_d rfl rfl (opv_move rfl rfl) ?_
      refine kops_d rfl rfl (opv_extract rfl rfl rfl) ?_
      refine kops_d rfl rfl (opv_extract rfl rfl rfl) ?_
      refine kops_step rfl (opk_alloc' (e := [_, _]) 2 rfl Try.zeroValue35 rfl rfl (by decide) (fun p9 => ?_))
      refine kops_step rfl (opk_store_box (e' := [_, _]) rfl rfl rfl Try.sizeOf35 rfl (by first | exact one_aw | exact one_int | exact one_sill | decide | (simp [Value.oneCell']; done) | (intro x hx; simp at hx; rcases hx with rfl | rfl | rfl | rfl | rfl <;> rfl)) rfl (by repeat (first | exact Upd.here | apply Upd.there)) ?_)
      refine kops_d rfl rfl (opv_assign rfl rfl) ?_
      refine kops_nil ?_
      refine kn_then ?_
      refine kwp_seq ?_
      refine kwp_seq ?_
      refine kwp_region ?_
      refine kops_d rfl rfl (opv_load_box rfl rfl Try.isAgg35 Try.sizeOf35 (by repeat (first | exact List.Mem.head _ | apply List.Mem.tail))) ?_
      refine kops_d rfl rfl (opv_load_box rfl rfl Try.isAgg35 Try.sizeOf35 (by repeat (first | exact List.Mem.head _ | apply List.Mem.tail))) ?_
      refine kops_step rfl (opk_call rfl Try.call22 rfl (c_laws_eqMine _ _ _ _ _ _ _ _ _ _ ⟨by omega, by omega⟩) ((perm_nil _)) (Views.cons (by repeat (first | exact List.Mem.head _ | apply List.Mem.tail)) (View.refl _) (Views.cons (by repeat (first | exact List.Mem.head _ | apply List.Mem.tail)) (View.refl _) ((Views.nil _)))) ?_)
      rintro _ _ ⟨rfl, rfl⟩
      refine kops_d rfl rfl (opv_not rfl rfl) ?_
      refine kops_d rfl rfl (opv_move rfl rfl) ?_
      refine kops_split 40 rfl (fun hb7 => ?_) (fun hb7 => ?_)
      ·
        first | have hb7n := kb_nt hb7 | have hb7n := kb_nf hb7 | have hb7n := hb7
        first | have hb7m := of_decide_eq_true hb7n | have hb7m := of_decide_eq_false hb7n | have hb7m := kb_eq hb7n | have hb7m := kb_ne hb7n | have hb7m := kb_bne hb7n | have hb7m := kb_nbne hb7n | have hb7m := isIx_t hb7n | have hb7m := isIx_f hb7n | have hb7m := inR_t hb7n | have hb7m := inR_f hb7n | have hb7m := dec_tt hb7n | have hb7m := dec_ff hb7n | have hb7m := hb7n
        try simp only [List.get_eq_getElem] at hb7n
        try simp only [List.get_eq_getElem] at hb7m
        try (exfalso; first | omega | (simp_all; done); done)
        all_goals
          refine kops_skip rfl rfl rfl hb7 ?_
          refine kops_skip rfl rfl rfl hb7 ?_
          refine kops_skip rfl rfl rfl hb7 ?_
          refine kops_d rfl rfl (opv_pick_t rfl rfl rfl hb7) ?_
          refine kops_nil ?_
          refine kn_then ?_
          refine kwp_cond_t rfl rfl ?_
          refine kwp_seq ?_
          refine kwp_region ?_
          refine kops_d rfl rfl (opv_assign rfl rfl) ?_
          refine kops_nil ?_
          refine kn_then ?_
          refine kwp_ret ?_
          refine kr_then ?_
          refine kret1 [] rfl rfl ?_ (by (repeat (first | exact Sub.refl _ | exact Sub.nil _ | refine Sub.chunk (by repeat (first | exact Pick.here | apply Pick.there)) (by first | rfl | (simp; done) | (congr 1; omega)) ?_)))
          exact ⟨rfl, rfl⟩
      ·
        first | have hb7n := kb_nt hb7 | have hb7n := kb_nf hb7 | have hb7n := hb7
        first | have hb7m := of_decide_eq_true hb7n | have hb7m := of_decide_eq_false hb7n | have hb7m := kb_eq hb7n | have hb7m := kb_ne hb7n | have hb7m := kb_bne hb7n | have hb7m := kb_nbne hb7n | have hb7m := isIx_t hb7n | have hb7m := isIx_f hb7n | have hb7m := inR_t hb7n | have hb7m := inR_f hb7n | have hb7m := dec_tt hb7n | have hb7m := dec_ff hb7n | have hb7m := hb7n
        try simp only [List.get_eq_getElem] at hb7n
        try simp only [List.get_eq_getElem] at hb7m
        try (exfalso; first | omega | (simp_all; done); done)
        all_goals
          refine kops_gd rfl rfl rfl hb7 rfl (opv_move rfl rfl) ?_
          refine kops_gd rfl rfl rfl hb7 rfl (opv_move rfl rfl) ?_
          refine kops_gd rfl rfl rfl hb7 rfl (opv_neb rfl rfl rfl Try.underlying4) ?_
          refine kops_d rfl rfl (opv_pick_f rfl rfl rfl hb7) ?_
          refine kops_nil ?_
          refine kn_then ?_
          refine kwp_cond rfl (fun hc9 => ?_) (fun hc9 => ?_)
          ·
            first | have hc9n := kb_nt hc9 | have hc9n := kb_nf hc9 | have hc9n := hc9
            first | have hc9m := of_decide_eq_true hc9n | have hc9m := of_decide_eq_false hc9n | have hc9m := kb_eq hc9n | have hc9m := kb_ne hc9n | have hc9m := kb_bne hc9n | have hc9m := kb_nbne hc9n | have hc9m := isIx_t hc9n | have hc9m := isIx_f hc9n | have hc9m := inR_t hc9n | have hc9m := inR_f hc9n | have hc9m := dec_tt hc9n | have hc9m := dec_ff hc9n | have hc9m := hc9n
            try simp only [List.get_eq_getElem] at hc9n
            try simp only [List.get_eq_getElem] at hc9m
            try (exfalso; first | omega | (simp_all; done); done)
            all_goals
              refine kwp_seq ?_
              refine kwp_region ?_
              refine kops_d rfl rfl (opv_assign rfl rfl) ?_
              refine kops_nil ?_
              refine kn_then ?_
              refine kwp_ret ?_
              refine kr_then ?_
              refine kret1 [] rfl rfl ?_ (by (repeat (first | exact Sub.refl _ | exact Sub.nil _ | refine Sub.chunk (by repeat (first | exact Pick.here | apply Pick.there)) (by first | rfl | (simp; done) | (congr 1; omega)) ?_)))
              exact ⟨rfl, rfl⟩
          ·
            first | have hc9n := kb_nt hc9 | have hc9n := kb_nf hc9 | have hc9n := hc9
            first | have hc9m := of_decide_eq_true hc9n | have hc9m := of_decide_eq_false hc9n | have hc9m := kb_eq hc9n | have hc9m := kb_ne hc9n | have hc9m := kb_bne hc9n | have hc9m := kb_nbne hc9n | have hc9m := isIx_t hc9n | have hc9m := isIx_f hc9n | have hc9m := inR_t hc9n | have hc9m := inR_f hc9n | have hc9m := dec_tt hc9n | have hc9m := dec_ff hc9n | have hc9m := hc9n
            try simp only [List.get_eq_getElem] at hc9n
            try simp only [List.get_eq_getElem] at hc9m
            try (exfalso; first | omega | (simp_all; done); done)
            all_goals
              refine kwp_skip ?_
              refine kn_then ?_
              refine kwp_seq ?_
              refine kwp_seq ?_
              refine kwp_draw [(0, true), (1, true), (2, false), (3, false), (4, true)] [] _ drawMixed (by kernel_rfl) (fun _ _ _ h => h) (Sub.refl _) ?_
              refine ks_d rfl rfl rfl (opv_load_box rfl rfl Try.isAgg35 Try.sizeOf35 (by repeat (first | exact List.Mem.head _ | apply List.Mem.tail))) ?_
              refine ks_d rfl rfl rfl (opv_load_box rfl rfl Try.isAgg30 Try.sizeOf30 (by repeat (first | exact List.Mem.head _ | apply List.Mem.tail))) ?_
              refine ks_k rfl rfl (opk_call rfl Try.call20 rfl (c_laws_toMine _ _ _ _ _ (by omega)) ((perm_nil _)) (Views.cons (by repeat (first | exact List.Mem.head _ | apply List.Mem.tail)) (View.refl _) ((Views.nil _))) ?_)
              rintro _ _ ⟨a47, c47, rfl, rfl⟩
              refine ⟨.inl (by (repeat (first | exact Sub.refl _ | exact Sub.nil _ | refine Sub.chunk (by repeat (first | exact Pick.here | apply Pick.there)) (by first | rfl | (simp; done) | (congr 1; omega)) ?_))), ?_⟩
              refine ks_k rfl rfl (opk_call rfl Try.call22 rfl (c_laws_eqMine _ _ _ _ _ _ _ _ _ _ ⟨by omega, by omega⟩) ((perm_nil _)) (Views.cons (by repeat (first | exact List.Mem.head _ | apply List.Mem.tail)) (View.refl _) (Views.cons (by repeat (first | exact List.Mem.head _ | apply List.Mem.tail)) (View.refl _) ((Views.nil _)))) ?_)
              rintro _ _ ⟨rfl, rfl⟩
              refine ⟨.inl (by (repeat (first | exact Sub.refl _ | exact Sub.nil _ | refine Sub.chunk (by repeat (first | exact Pick.here | apply Pick.there)) (by first | rfl | (simp; done) | (congr 1; omega)) ?_))), ?_⟩
              refine ks_d rfl rfl rfl (opv_not rfl rfl) ?_
              refine ks_nil ?_
              refine kn_then ?_
              refine kwp_cond rfl (fun hc12 => ?_) (fun hc12 => ?_)
              ·
                first | have hc12n := kb_nt hc12 | have hc12n := kb_nf hc12 | have hc12n := hc12
                first | have hc12m := of_decide_eq_true hc12n | have hc12m := of_decide_eq_false hc12n | have hc12m := kb_eq hc12n | have hc12m := kb_ne hc12n | have hc12m := kb_bne hc12n | have hc12m := kb_nbne hc12n | have hc12m := isIx_t hc12n | have hc12m := isIx_f hc12n | have hc12m := inR_t hc12n | have hc12m := inR_f hc12n | have hc12m := dec_tt hc12n | have hc12m := dec_ff hc12n | have hc12m := hc12n
                try simp only [List.get_eq_getElem] at hc12n
                try simp only [List.get_eq_getElem] at hc12m
                try (exfalso; first | omega | (simp_all; done); done)
                all_goals
                  refine kwp_seq ?_
                  refine kwp_region ?_
                  refine kops_d rfl rfl (opv_assign rfl rfl) ?_
                  refine kops_nil ?_
                  refine kn_then ?_
                  refine kwp_ret ?_
                  refine kr_then ?_
                  refine kret1 [] rfl rfl ?_ (by (repeat (first | exact Sub.refl _ | exact Sub.nil _ | refine Sub.chunk (by repeat (first | exact Pick.here | apply Pick.there)) (by first | rfl | (simp; done) | (congr 1; omega)) ?_)))
                  exact ⟨rfl, rfl⟩
              ·
                first | have hc12n := kb_nt hc12 | have hc12n := kb_nf hc12 | have hc12n := hc12
                first | have hc12m := of_decide_eq_true hc12n | have hc12m := of_decide_eq_false hc12n | have hc12m := kb_eq hc12n | have hc12m := kb_ne hc12n | have hc12m := kb_bne hc12n | have hc12m := kb_nbne hc12n | have hc12m := isIx_t hc12n | have hc12m := isIx_f hc12n | have hc12m := inR_t hc12n | have hc12m := inR_f hc12n | have hc12m := dec_tt hc12n | have hc12m := dec_ff hc12n | have hc12m := hc12n
                try simp only [List.get_eq_getElem] at hc12n
                try simp only [List.get_eq_getElem] at hc12m
                try (exfalso; first | omega | (simp_all; done); done)
                all_goals
                  refine kwp_skip ?_
                  refine kn_then ?_
                  refine kwp_seq ?_
                  refine kwp_region ?_
                  refine kops_d rfl rfl (opv_assign rfl rfl) ?_
                  refine kops_nil ?_
                  refine kn_then ?_
                  refine kwp_seq ?_
                  refine kwp_region ?_
                  refine kops_d rfl rfl (opv_load_box rfl rfl Try.isAgg35 Try.sizeOf35 (by repeat (first | exact List.Mem.head _ | apply List.Mem.tail))) ?_
                  refine kops_d rfl rfl (opv_move rfl rfl) ?_
                  refine kops_step rfl (opk_call rfl Try.call34 rfl (c_laws_markMine _ _ _ _ _ _ ⟨by omega, by omega⟩ (by omega)) (perm_cons (by repeat (first | exact Pick.here | apply Pick.there)) ((perm_nil _))) ((Views.nil _)) ?_)
                  rintro _ _ ⟨rfl, rfl⟩
                  refine kops_d rfl rfl (opv_assign rfl rfl) ?_
                  refine kops_nil ?_
                  refine kn_then ?_
                  refine kwp_seq ?_
                  refine kwp_seq ?_
                  refine kwp_region ?_
                  refine kops_d rfl rfl (opv_move rfl rfl) ?_
                  refine kops_d rfl rfl (opv_cmp rfl rfl rfl rfl) ?_
                  refine kops_d rfl rfl (opv_move rfl rfl) ?_
                  refine kops_split 55 rfl (fun hb14 => ?_) (fun hb14 => ?_)
                  ·
                    first | have hb14n := kb_nt hb14 | have hb14n := kb_nf hb14 | have hb14n := hb14
                    first | have hb14m := of_decide_eq_true hb14n | have hb14m := of_decide_eq_false hb14n | have hb14m := kb_eq hb14n | have hb14m := kb_ne hb14n | have hb14m := kb_bne hb14n | have hb14m := kb_nbne hb14n | have hb14m := isIx_t hb14n | have hb14m := isIx_f hb14n | have hb14m := inR_t hb14n | have hb14m := inR_f hb14n | have hb14m := dec_tt hb14n | have hb14m := dec_ff hb14n | have hb14m := hb14n
                    try simp only [List.get_eq_getElem] at hb14n
                    try simp only [List.get_eq_getElem] at hb14m
                    try (exfalso; first | omega | (simp_all; done); done)
                    all_goals
                      refine kops_skip rfl rfl rfl hb14 ?_
                      refine kops_skip rfl rfl rfl hb14 ?_
                      refine kops_skip rfl rfl rfl hb14 ?_
                      refine kops_skip rfl rfl rfl hb14 ?_
                      refine kops_d rfl rfl (opv_pick_t rfl rfl rfl hb14) ?_
                      refine kops_d rfl rfl (opv_move rfl rfl) ?_
                      refine kops_skip rfl rfl rfl rfl ?_
                      refine kops_skip rfl rfl rfl rfl ?_
                      refine kops_skip rfl rfl rfl rfl ?_
                      refine kops_d rfl rfl (opv_pick_t rfl rfl rfl rfl) ?_
                      refine kops_nil ?_
                      refine kn_then ?_
                      refine kwp_cond_t rfl rfl ?_
                      refine kwp_seq ?_
                      refine kwp_region ?_
                      refine kops_d rfl rfl (opv_assign rfl rfl) ?_
                      refine kops_nil ?_
                      refine kn_then ?_
                      refine kwp_ret ?_
                      refine kr_then ?_
                      refine kret1 [] rfl rfl ?_ (by (repeat (first | exact Sub.refl _ | exact Sub.nil _ | refine Sub.chunk (by repeat (first | exact Pick.here | apply Pick.there)) (by first | rfl | (simp; done) | (congr 1; omega)) ?_)))
                      exact ⟨rfl, rfl⟩
                  ·
                    first | have hb14n := kb_nt hb14 | have hb14n := kb_nf hb14 | have hb14n := hb14
                    first | have hb14m := of_decide_eq_true hb14n | have hb14m := of_decide_eq_false hb14n | have hb14m := kb_eq hb14n | have hb14m := kb_ne hb14n | have hb14m := kb_bne hb14n | have hb14m := kb_nbne hb14n | have hb14m := isIx_t hb14n | have hb14m := isIx_f hb14n | have hb14m := inR_t hb14n | have hb14m := inR_f hb14n | have hb14m := dec_tt hb14n | have hb14m := dec_ff hb14n | have hb14m := hb14n
                    try simp only [List.get_eq_getElem] at hb14n
                    try simp only [List.get_eq_getElem] at hb14m
                    try (exfalso; first | omega | (simp_all; done); done)
                    all_goals
                      refine kops_gd rfl rfl rfl hb14 rfl (opv_load_box rfl rfl Try.isAgg35 Try.sizeOf35 (by repeat (first | exact List.Mem.head _ | apply List.Mem.tail))) ?_
                      refine kops_gd rfl rfl rfl hb14 rfl (opv_load_box rfl rfl Try.isAgg35 Try.sizeOf35 (by repeat (first | exact List.Mem.head _ | apply List.Mem.tail))) ?_
                      refine kops_gk rfl rfl rfl hb14 (opk_call rfl Try.call22 rfl (c_laws_eqMine _ _ _ _ _ _ _ _ _ _ ⟨by omega, by omega⟩) ((perm_nil _)) (Views.cons (by repeat (first | exact List.Mem.head _ | apply List.Mem.tail)) (View.refl _) (Views.cons (by repeat (first | exact List.Mem.head _ | apply List.Mem.tail)) (View.refl _) ((Views.nil _)))) ?_)
                      rintro _ _ ⟨rfl, rfl⟩
                      refine kops_gd rfl rfl rfl hb14 rfl (opv_not rfl rfl) ?_
                      refine kops_d rfl rfl (opv_pick_f rfl rfl rfl hb14) ?_
                      refine kops_d rfl rfl (opv_move rfl rfl) ?_
                      refine kops_split 61 rfl (fun hb17 => ?_) (fun hb17 => ?_)
                      ·
                        first | have hb17n := kb_nt hb17 | have hb17n := kb_nf hb17 | have hb17n := hb17
                        first | have hb17m := of_decide_eq_true hb17n | have hb17m := of_decide_eq_false hb17n | have hb17m := kb_eq hb17n | have hb17m := kb_ne hb17n | have hb17m := kb_bne hb17n | have hb17m := kb_nbne hb17n | have hb17m := isIx_t hb17n | have hb17m := isIx_f hb17n | have hb17m := inR_t hb17n | have hb17m := inR_f hb17n | have hb17m := dec_tt hb17n | have hb17m := dec_ff hb17n | have hb17m := hb17n
                        try simp only [List.get_eq_getElem] at hb17n
                        try simp only [List.get_eq_getElem] at hb17m
                        try (exfalso; first | omega | (simp_all; done); done)
                        all_goals
                          refine kops_skip rfl rfl rfl hb17 ?_
                          refine kops_skip rfl rfl rfl hb17 ?_
                          refine kops_skip rfl rfl rfl hb17 ?_
                          refine kops_d rfl rfl (opv_pick_t rfl rfl rfl hb17) ?_
                          refine kops_nil ?_
                          refine kn_then ?_
                          refine kwp_cond_t rfl rfl ?_
                          refine kwp_seq ?_
                          refine kwp_region ?_
                          refine kops_d rfl rfl (opv_assign rfl rfl) ?_
                          refine kops_nil ?_
                          refine kn_then ?_
                          refine kwp_ret ?_
                          refine kr_then ?_
                          refine kret1 [] rfl rfl ?_ (by (repeat (first | exact Sub.refl _ | exact Sub.nil _ | refine Sub.chunk (by repeat (first | exact Pick.here | apply Pick.there)) (by first | rfl | (simp; done) | (congr 1; omega)) ?_)))
                          exact ⟨rfl, rfl⟩
                      ·
                        first | have hb17n := kb_nt hb17 | have hb17n := kb_nf hb17 | have hb17n := hb17
                        first | have hb17m := of_decide_eq_true hb17n | have hb17m := of_decide_eq_false hb17n | have hb17m := kb_eq hb17n | have hb17m := kb_ne hb17n | have hb17m := kb_bne hb17n | have hb17m := kb_nbne hb17n | have hb17m := isIx_t hb17n | have hb17m := isIx_f hb17n | have hb17m := inR_t hb17n | have hb17m := inR_f hb17n | have hb17m := dec_tt hb17n | have hb17m := dec_ff hb17n | have hb17m := hb17n
                        try simp only [List.get_eq_getElem] at hb17n
                        try simp only [List.get_eq_getElem] at hb17m
                        try (exfalso; first | omega | (simp_all; done); done)
                        all_goals
                          refine kops_gd rfl rfl rfl hb17 rfl (opv_move rfl rfl) ?_
                          refine kops_gd rfl rfl rfl hb17 rfl (opv_move rfl rfl) ?_
                          refine kops_gd rfl rfl rfl hb17 rfl (opv_neb rfl rfl rfl Try.underlying4) ?_
                          refine kops_d rfl rfl (opv_pick_f rfl rfl rfl hb17) ?_
                          refine kops_nil ?_
                          refine kn_then ?_
                          refine kwp_cond rfl (fun hc19 => ?_) (fun hc19 => ?_)
                          ·
                            first | have hc19n := kb_nt hc19 | have hc19n := kb_nf hc19 | have hc19n := hc19
                            first | have hc19m := of_decide_eq_true hc19n | have hc19m := of_decide_eq_false hc19n | have hc19m := kb_eq hc19n | have hc19m := kb_ne hc19n | have hc19m := kb_bne hc19n | have hc19m := kb_nbne hc19n | have hc19m := isIx_t hc19n | have hc19m := isIx_f hc19n | have hc19m := inR_t hc19n | have hc19m := inR_f hc19n | have hc19m := dec_tt hc19n | have hc19m := dec_ff hc19n | have hc19m := hc19n
                            try simp only [List.get_eq_getElem] at hc19n
                            try simp only [List.get_eq_getElem] at hc19m
                            try (exfalso; first | omega | (simp_all; done); done)
                            all_goals
                              refine kwp_seq ?_
                              refine kwp_region ?_
                              refine kops_d rfl rfl (opv_assign rfl rfl) ?_
                              refine kops_nil ?_
                              refine kn_then ?_
                              refine kwp_ret ?_
                              refine kr_then ?_
                              refine kret1 [] rfl rfl ?_ (by (repeat (first | exact Sub.refl _ | exact Sub.nil _ | refine Sub.chunk (by repeat (first | exact Pick.here | apply Pick.there)) (by first | rfl | (simp; done) | (congr 1; omega)) ?_)))
                              exact ⟨rfl, rfl⟩
                          ·
                            first | have hc19n := kb_nt hc19 | have hc19n := kb_nf hc19 | have hc19n := hc19
                            first | have hc19m := of_decide_eq_true hc19n | have hc19m := of_decide_eq_false hc19n | have hc19m := kb_eq hc19n | have hc19m := kb_ne hc19n | have hc19m := kb_bne hc19n | have hc19m := kb_nbne hc19n | have hc19m := isIx_t hc19n | have hc19m := isIx_f hc19n | have hc19m := inR_t hc19n | have hc19m := inR_f hc19n | have hc19m := dec_tt hc19n | have hc19m := dec_ff hc19n | have hc19m := hc19n
                            try simp only [List.get_eq_getElem] at hc19n
                            try simp only [List.get_eq_getElem] at hc19m
                            try (exfalso; first | omega | (simp_all; done); done)
                            all_goals
                              refine kwp_skip ?_
                              refine kn_then ?_
                              refine kwp_seq ?_
                              refine kwp_region ?_
                              refine kops_d rfl rfl (opv_assign rfl rfl) ?_
                              refine kops_nil ?_
                              refine kn_then ?_
                              refine kwp_seq ?_
                              refine kwp_region ?_
                              refine kops_d rfl rfl (opv_load_box rfl rfl Try.isAgg35 Try.sizeOf35 (by repeat (first | exact List.Mem.head _ | apply List.Mem.tail))) ?_
                              refine kops_d rfl rfl (opv_move rfl rfl) ?_
                              refine kops_step rfl (opk_call rfl Try.call34 rfl (c_laws_markMine _ _ _ _ _ _ ⟨by omega, by omega⟩ (by omega)) (perm_cons (by repeat (first | exact Pick.here | apply Pick.there)) ((perm_nil _))) ((Views.nil _)) ?_)
                              rintro _ _ ⟨rfl, rfl⟩
                              refine kops_d rfl rfl (opv_assign rfl rfl) ?_
                              refine kops_nil ?_
                              refine kn_then ?_
                              refine kwp_seq ?_
                              refine kwp_region ?_
                              refine kops_d rfl rfl (opv_assign rfl rfl) ?_
                              refine kops_nil ?_
                              refine kn_then ?_
                              refine kwp_seq ?_
                              refine kwp_region ?_
                              refine kops_d rfl rfl (opv_load_box rfl rfl Try.isAgg35 Try.sizeOf35 (by repeat (first | exact List.Mem.head _ | apply List.Mem.tail))) ?_
                              refine kops_d rfl rfl (opv_move rfl rfl) ?_
                              refine kops_step rfl (opk_call rfl Try.call35 rfl (c_laws_heldMine _ _ _ _ _ ⟨by omega, by omega⟩ (by omega)) ((perm_nil _)) (Views.cons (by repeat (first | exact List.Mem.head _ | apply List.Mem.tail)) (View.refl _) ((Views.nil _))) ?_)
                              rintro _ _ ⟨rfl, rfl⟩
                              refine kops_d rfl rfl (opv_assign rfl rfl) ?_
                              refine kops_nil ?_
                              refine kn_then ?_
                              refine kwp_seq ?_
                              refine kwp_seq ?_
                              refine kwp_region ?_
                              refine kops_d rfl rfl (opv_move rfl rfl) ?_
                              refine kops_d rfl rfl (opv_cmp rfl rfl rfl rfl) ?_
                              refine kops_nil ?_
                              refine kn_then ?_
                              refine kwp_cond rfl (fun hc21 => ?_) (fun hc21 => ?_)
                              ·
                                first | have hc21n := kb_nt hc21 | have hc21n := kb_nf hc21 | have hc21n := hc21
                                first | have hc21m := of_decide_eq_true hc21n | have hc21m := of_decide_eq_false hc21n | have hc21m := kb_eq hc21n | have hc21m := kb_ne hc21n | have hc21m := kb_bne hc21n | have hc21m := kb_nbne hc21n | have hc21m := isIx_t hc21n | have hc21m := isIx_f hc21n | have hc21m := inR_t hc21n | have hc21m := inR_f hc21n | have hc21m := dec_tt hc21n | have hc21m := dec_ff hc21n | have hc21m := hc21n
                                try simp only [List.get_eq_getElem] at hc21n
                                try simp only [List.get_eq_getElem] at hc21m
                                try (exfalso; first | omega | (simp_all; done); done)
                                all_goals
                                  refine kwp_seq ?_
                                  refine kwp_region ?_
                                  refine kops_d rfl rfl (opv_assign rfl rfl) ?_
                                  refine kops_nil ?_
                                  refine kn_then ?_
                                  refine kwp_ret ?_
                                  refine kr_then ?_
                                  refine kret1 [] rfl rfl ?_ (by (repeat (first | exact Sub.refl _ | exact Sub.nil _ | refine Sub.chunk (by repeat (first | exact Pick.here | apply Pick.there)) (by first | rfl | (simp; done) | (congr 1; omega)) ?_)))
                                  exact ⟨rfl, rfl⟩
                              ·
                                first | have hc21n := kb_nt hc21 | have hc21n := kb_nf hc21 | have hc21n := hc21
                                first | have hc21m := of_decide_eq_true hc21n | have hc21m := of_decide_eq_false hc21n | have hc21m := kb_eq hc21n | have hc21m := kb_ne hc21n | have hc21m := kb_bne hc21n | have hc21m := kb_nbne hc21n | have hc21m := isIx_t hc21n | have hc21m := isIx_f hc21n | have hc21m := inR_t hc21n | have hc21m := inR_f hc21n | have hc21m := dec_tt hc21n | have hc21m := dec_ff hc21n | have hc21m := hc21n
                                try simp only [List.get_eq_getElem] at hc21n
                                try simp only [List.get_eq_getElem] at hc21m
                                try (exfalso; first | omega | (simp_all; done); done)
                                all_goals
                                  refine kwp_skip ?_
                                  refine kn_then ?_
                                  refine kwp_seq ?_
                                  refine kwp_seq ?_
                                  refine kwp_region ?_
                                  refine kops_d rfl rfl (opv_move rfl rfl) ?_
                                  refine kops_d rfl rfl (opv_move rfl rfl) ?_
                                  refine kops_d rfl rfl (opv_cmp rfl rfl rfl rfl) ?_
                                  refine kops_nil ?_
                                  refine kn_then ?_
                                  refine kwp_cond rfl (fun hc23 => ?_) (fun hc23 => ?_)
                                  ·
                                    first | have hc23n := kb_nt hc23 | have hc23n := kb_nf hc23 | have hc23n := hc23
                                    first | have hc23m := of_decide_eq_true hc23n | have hc23m := of_decide_eq_false hc23n | have hc23m := kb_eq hc23n | have hc23m := kb_ne hc23n | have hc23m := kb_bne hc23n | have hc23m := kb_nbne hc23n | have hc23m := isIx_t hc23n | have hc23m := isIx_f hc23n | have hc23m := inR_t hc23n | have hc23m := inR_f hc23n | have hc23m := dec_tt hc23n | have hc23m := dec_ff hc23n | have hc23m := hc23n
                                    try simp only [List.get_eq_getElem] at hc23n
                                    try simp only [List.get_eq_getElem] at hc23m
                                    try (exfalso; first | omega | (simp_all; done); done)
                                    all_goals
                                      refine kwp_seq ?_
                                      refine kwp_region ?_
                                      refine kops_d rfl rfl (opv_assign rfl rfl) ?_
                                      refine kops_nil ?_
                                      refine kn_then ?_
                                      refine kwp_ret ?_
                                      refine kr_then ?_
                                      refine kret1 [] rfl rfl ?_ (by (repeat (first | exact Sub.refl _ | exact Sub.nil _ | refine Sub.chunk (by repeat (first | exact Pick.here | apply Pick.there)) (by first | rfl | (simp; done) | (congr 1; omega)) ?_)))
                                      exact ⟨rfl, rfl⟩
                                  ·
                                    first | have hc23n := kb_nt hc23 | have hc23n := kb_nf hc23 | have hc23n := hc23
                                    first | have hc23m := of_decide_eq_true hc23n | have hc23m := of_decide_eq_false hc23n | have hc23m := kb_eq hc23n | have hc23m := kb_ne hc23n | have hc23m := kb_bne hc23n | have hc23m := kb_nbne hc23n | have hc23m := isIx_t hc23n | have hc23m := isIx_f hc23n | have hc23m := inR_t hc23n | have hc23m := inR_f hc23n | have hc23m := dec_tt hc23n | have hc23m := dec_ff hc23n | have hc23m := hc23n
                                    try simp only [List.get_eq_getElem] at hc23n
                                    try simp only [List.get_eq_getElem] at hc23m
                                    try (exfalso; first | omega | (simp_all; done); done)
                                    all_goals
                                      refine kwp_skip ?_
                                      refine kn_then ?_
                                      refine kwp_seq ?_
                                      refine kwp_region ?_
                                      refine kops_d rfl rfl (opv_load_box rfl rfl Try.isAgg30 Try.sizeOf30 (by repeat (first | exact List.Mem.head _ | apply List.Mem.tail))) ?_
                                      refine kops_step rfl (opk_call rfl Try.call20 rfl (c_laws_toMine _ _ _ _ _ (by omega)) ((perm_nil _)) (Views.cons (by repeat (first | exact List.Mem.head _ | apply List.Mem.tail)) (View.refl _) ((Views.nil _))) ?_)
                                      rintro _ _ ⟨a79, c79, rfl, rfl⟩
                                      refine kops_d rfl rfl (opv_move rfl rfl) ?_
                                      refine kops_step rfl (opk_call rfl Try.call33 rfl (c_impl_Widen _ _ _ _ _ _ (by omega)) ((perm_nil _)) (Views.cons (by repeat (first | exact List.Mem.head _ | apply List.Mem.tail)) (View.refl _) ((Views.nil _))) ?_)
                                      rintro _ _ ⟨a81, n81, c81, rfl, hn81, rfl⟩
                                      refine kops_d rfl rfl (opv_move rfl rfl) ?_
                                      refine kops_d rfl rfl (opv_extract rfl rfl rfl) ?_
                                      refine kops_d rfl rfl (opv_extract rfl rfl rfl) ?_
                                      refine kops_step rfl (opk_alloc' (e := [_, _]) 2 rfl Try.zeroValue35 rfl rfl (by decide) (fun p14 => ?_))
                                      refine kops_step rfl (opk_store_box (e' := [_, _]) rfl rfl rfl Try.sizeOf35 rfl (by first | exact one_aw | exact one_int | exact one_sill | decide | (simp [Value.oneCell']; done) | (intro x hx; simp at hx; rcases hx with rfl | rfl | rfl | rfl | rfl <;> rfl)) rfl (by repeat (first | exact Upd.here | apply Upd.there)) ?_)
                                      refine kops_d rfl rfl (opv_assign rfl rfl) ?_
                                      refine kops_nil ?_
                                      refine kn_then ?_
                                      refine kwp_seq ?_
                                      refine kwp_seq ?_
                                      refine kwp_region ?_
                                      refine kops_d rfl rfl (opv_load_box rfl rfl Try.isAgg35 Try.sizeOf35 (by repeat (first | exact List.Mem.head _ | apply List.Mem.tail))) ?_
                                      refine kops_d rfl rfl (opv_load_box rfl rfl Try.isAgg35 Try.sizeOf35 (by repeat (first | exact List.Mem.head _ | apply List.Mem.tail))) ?_
                                      refine kops_step rfl (opk_call rfl Try.call22 rfl (c_laws_eqMine _ _ _ _ _ _ _ _ _ _ ⟨by omega, by omega⟩) ((perm_nil _)) (Views.cons (by repeat (first | exact List.Mem.head _ | apply List.Mem.tail)) (View.refl _) (Views.cons (by repeat (first | exact List.Mem.head _ | apply List.Mem.tail)) (View.refl _) ((Views.nil _)))) ?_)
                                      rintro _ _ ⟨rfl, rfl⟩
                                      refine kops_d rfl rfl (opv_not rfl rfl) ?_
                                      refine kops_d rfl rfl (opv_move rfl rfl) ?_
                                      refine kops_split 88 rfl (fun hb27 => ?_) (fun hb27 => ?_)
                                      ·
                                        first | have hb27n := kb_nt hb27 | have hb27n := kb_nf hb27 | have hb27n := hb27
                                        first | have hb27m := of_decide_eq_true hb27n | have hb27m := of_decide_eq_false hb27n | have hb27m := kb_eq hb27n | have hb27m := kb_ne hb27n | have hb27m := kb_bne hb27n | have hb27m := kb_nbne hb27n | have hb27m := isIx_t hb27n | have hb27m := isIx_f hb27n | have hb27m := inR_t hb27n | have hb27m := inR_f hb27n | have hb27m := dec_tt hb27n | have hb27m := dec_ff hb27n | have hb27m := hb27n
                                        try simp only [List.get_eq_getElem] at hb27n
                                        try simp only [List.get_eq_getElem] at hb27m
                                        try (exfalso; first | omega | (simp_all; done); done)
                                        all_goals
                                          refine kops_skip rfl rfl rfl hb27 ?_
                                          refine kops_skip rfl rfl rfl hb27 ?_
                                          refine kops_skip rfl rfl rfl hb27 ?_
                                          refine kops_d rfl rfl (opv_pick_t rfl rfl rfl hb27) ?_
                                          refine kops_nil ?_
                                          refine kn_then ?_
                                          refine kwp_cond_t rfl rfl ?_
                                          refine kwp_seq ?_
                                          refine kwp_region ?_
                                          refine kops_d rfl rfl (opv_assign rfl rfl) ?_
                                          refine kops_nil ?_
                                          refine kn_then ?_
                                          refine kwp_ret ?_
                                          refine kr_then ?_
                                          refine kret1 [] rfl rfl ?_ (by (repeat (first | exact Sub.refl _ | exact Sub.nil _ | refine Sub.chunk (by repeat (first | exact Pick.here | apply Pick.there)) (by first | rfl | (simp; done) | (congr 1; omega)) ?_)))
                                          exact ⟨rfl, rfl⟩
                                      ·
                                        first | have hb27n := kb_nt hb27 | have hb27n := kb_nf hb27 | have hb27n := hb27
                                        first | have hb27m := of_decide_eq_true hb27n | have hb27m := of_decide_eq_false hb27n | have hb27m := kb_eq hb27n | have hb27m := kb_ne hb27n | have hb27m := kb_bne hb27n | have hb27m := kb_nbne hb27n | have hb27m := isIx_t hb27n | have hb27m := isIx_f hb27n | have hb27m := inR_t hb27n | have hb27m := inR_f hb27n | have hb27m := dec_tt hb27n | have hb27m := dec_ff hb27n | have hb27m := hb27n
                                        try simp only [List.get_eq_getElem] at hb27n
                                        try simp only [List.get_eq_getElem] at hb27m
                                        try (exfalso; first | omega | (simp_all; done); done)
                                        all_goals
                                          refine kops_gd rfl rfl rfl hb27 rfl (opv_move rfl rfl) ?_
                                          refine kops_gd rfl rfl rfl hb27 rfl (opv_move rfl rfl) ?_
                                          refine kops_gd rfl rfl rfl hb27 rfl (opv_neb rfl rfl rfl Try.underlying4) ?_
                                          refine kops_d rfl rfl (opv_pick_f rfl rfl rfl hb27) ?_
                                          refine kops_nil ?_
                                          refine kn_then ?_
                                          refine kwp_cond rfl (fun hc29 => ?_) (fun hc29 => ?_)
                                          ·
                                            first | have hc29n := kb_nt hc29 | have hc29n := kb_nf hc29 | have hc29n := hc29
                                            first | have hc29m := of_decide_eq_true hc29n | have hc29m := of_decide_eq_false hc29n | have hc29m := kb_eq hc29n | have hc29m := kb_ne hc29n | have hc29m := kb_bne hc29n | have hc29m := kb_nbne hc29n | have hc29m := isIx_t hc29n | have hc29m := isIx_f hc29n | have hc29m := inR_t hc29n | have hc29m := inR_f hc29n | have hc29m := dec_tt hc29n | have hc29m := dec_ff hc29n | have hc29m := hc29n
                                            try simp only [List.get_eq_getElem] at hc29n
                                            try simp only [List.get_eq_getElem] at hc29m
                                            try (exfalso; first | omega | (simp_all; done); done)
                                            all_goals
                                              refine kwp_seq ?_
                                              refine kwp_region ?_
                                              refine kops_d rfl rfl (opv_assign rfl rfl) ?_
                                              refine kops_nil ?_
                                              refine kn_then ?_
                                              refine kwp_ret ?_
                                              refine kr_then ?_
                                              refine kret1 [] rfl rfl ?_ (by (repeat (first | exact Sub.refl _ | exact Sub.nil _ | refine Sub.chunk (by repeat (first | exact Pick.here | apply Pick.there)) (by first | rfl | (simp; done) | (congr 1; omega)) ?_)))
                                              exact ⟨rfl, rfl⟩
                                          ·
                                            first | have hc29n := kb_nt hc29 | have hc29n := kb_nf hc29 | have hc29n := hc29
                                            first | have hc29m := of_decide_eq_true hc29n | have hc29m := of_decide_eq_false hc29n | have hc29m := kb_eq hc29n | have hc29m := kb_ne hc29n | have hc29m := kb_bne hc29n | have hc29m := kb_nbne hc29n | have hc29m := isIx_t hc29n | have hc29m := isIx_f hc29n | have hc29m := inR_t hc29n | have hc29m := inR_f hc29n | have hc29m := dec_tt hc29n | have hc29m := dec_ff hc29n | have hc29m := hc29n
                                            try simp only [List.get_eq_getElem] at hc29n
                                            try simp only [List.get_eq_getElem] at hc29m
                                            try (exfalso; first | omega | (simp_all; done); done)
                                            all_goals
                                              refine kwp_skip ?_
                                              refine kn_then ?_
                                              refine kwp_seq ?_
                                              refine kwp_region ?_
                                              refine kops_d rfl rfl (opv_assign rfl rfl) ?_
                                              refine kops_nil ?_
                                              refine kn_then ?_
                                              refine kwp_seq ?_
                                              refine kwp_region ?_
                                              refine kops_d rfl rfl (opv_load_box rfl rfl Try.isAgg35 Try.sizeOf35 (by repeat (first | exact List.Mem.head _ | apply List.Mem.tail))) ?_
                                              refine kops_d rfl rfl (opv_move rfl rfl) ?_
                                              refine kops_step rfl (opk_call rfl Try.call35 rfl (c_laws_heldMine _ _ _ _ _ ⟨by omega, by omega⟩ (by omega)) ((perm_nil _)) (Views.cons (by repeat (first | exact List.Mem.head _ | apply List.Mem.tail)) (View.refl _) ((Views.nil _))) ?_)
                                              rintro _ _ ⟨rfl, rfl⟩
                                              refine kops_d rfl rfl (opv_assign rfl rfl) ?_
                                              refine kops_nil ?_
                                              refine kn_then ?_
                                              refine kwp_seq ?_
                                              refine kwp_seq ?_
                                              refine kwp_region ?_
                                              refine kops_d rfl rfl (opv_move rfl rfl) ?_
                                              refine kops_d rfl rfl (opv_cmp rfl rfl rfl rfl) ?_
                                              refine kops_nil ?_
                                              refine kn_then ?_
                                              refine kwp_cond rfl (fun hc31 => ?_) (fun hc31 => ?_)
                                              ·
                                                first | have hc31n := kb_nt hc31 | have hc31n := kb_nf hc31 | have hc31n := hc31
                                                first | have hc31m := of_decide_eq_true hc31n | have hc31m := of_decide_eq_false hc31n | have hc31m := kb_eq hc31n | have hc31m := kb_ne hc31n | have hc31m := kb_bne hc31n | have hc31m := kb_nbne hc31n | have hc31m := isIx_t hc31n | have hc31m := isIx_f hc31n | have hc31m := inR_t hc31n | have hc31m := inR_f hc31n | have hc31m := dec_tt hc31n | have hc31m := dec_ff hc31n | have hc31m := hc31n
                                                try simp only [List.get_eq_getElem] at hc31n
                                                try simp only [List.get_eq_getElem] at hc31m
                                                try (exfalso; first | omega | (simp_all; done); done)
                                                all_goals
                                                  refine kwp_seq ?_
                                                  refine kwp_region ?_
                                                  refine kops_d rfl rfl (opv_assign rfl rfl) ?_
                                                  refine kops_nil ?_
                                                  refine kn_then ?_
                                                  refine kwp_ret ?_
                                                  refine kr_then ?_
                                                  refine kret1 [] rfl rfl ?_ (by (repeat (first | exact Sub.refl _ | exact Sub.nil _ | refine Sub.chunk (by repeat (first | exact Pick.here | apply Pick.there)) (by first | rfl | (simp; done) | (congr 1; omega)) ?_)))
                                                  exact ⟨rfl, rfl⟩
                                              ·
                                                first | have hc31n := kb_nt hc31 | have hc31n := kb_nf hc31 | have hc31n := hc31
                                                first | have hc31m := of_decide_eq_true hc31n | have hc31m := of_decide_eq_false hc31n | have hc31m := kb_eq hc31n | have hc31m := kb_ne hc31n | have hc31m := kb_bne hc31n | have hc31m := kb_nbne hc31n | have hc31m := isIx_t hc31n | have hc31m := isIx_f hc31n | have hc31m := inR_t hc31n | have hc31m := inR_f hc31n | have hc31m := dec_tt hc31n | have hc31m := dec_ff hc31n | have hc31m := hc31n
                                                try simp only [List.get_eq_getElem] at hc31n
                                                try simp only [List.get_eq_getElem] at hc31m
                                                try (exfalso; first | omega | (simp_all; done); done)
                                                all_goals
                                                  refine kwp_skip ?_
                                                  refine kn_then ?_
                                                  refine kwp_seq ?_
                                                  refine kwp_seq ?_
                                                  refine kwp_region ?_
                                                  refine kops_d rfl rfl (opv_move rfl rfl) ?_
                                                  refine kops_d rfl rfl (opv_move rfl rfl) ?_
                                                  refine kops_d rfl rfl (opv_cmp rfl rfl rfl rfl) ?_
                                                  refine kops_nil ?_
                                                  refine kn_then ?_
                                                  refine kwp_cond rfl (fun hc33 => ?_) (fun hc33 => ?_)
                                                  ·
                                                    first | have hc33n := kb_nt hc33 | have hc33n := kb_nf hc33 | have hc33n := hc33
                                                    first | have hc33m := of_decide_eq_true hc33n | have hc33m := of_decide_eq_false hc33n | have hc33m := kb_eq hc33n | have hc33m := kb_ne hc33n | have hc33m := kb_bne hc33n | have hc33m := kb_nbne hc33n | have hc33m := isIx_t hc33n | have hc33m := isIx_f hc33n | have hc33m := inR_t hc33n | have hc33m := inR_f hc33n | have hc33m := dec_tt hc33n | have hc33m := dec_ff hc33n | have hc33m := hc33n
                                                    try simp only [List.get_eq_getElem] at hc33n
                                                    try simp only [List.get_eq_getElem] at hc33m
                                                    try (exfalso; first | omega | (simp_all; done); done)
                                                    all_goals
                                                      refine kwp_seq ?_
                                                      refine kwp_region ?_
                                                      refine kops_d rfl rfl (opv_assign rfl rfl) ?_
                                                      refine kops_nil ?_
                                                      refine kn_then ?_
                                                      refine kwp_ret ?_
                                                      refine kr_then ?_
                                                      refine kret1 [] rfl rfl ?_ (by (repeat (first | exact Sub.refl _ | exact Sub.nil _ | refine Sub.chunk (by repeat (first | exact Pick.here | apply Pick.there)) (by first | rfl | (simp; done) | (congr 1; omega)) ?_)))
                                                      exact ⟨rfl, rfl⟩
                                                  ·
                                                    first | have hc33n := kb_nt hc33 | have hc33n := kb_nf hc33 | have hc33n := hc33
                                                    first | have hc33m := of_decide_eq_true hc33n | have hc33m := of_decide_eq_false hc33n | have hc33m := kb_eq hc33n | have hc33m := kb_ne hc33n | have hc33m := kb_bne hc33n | have hc33m := kb_nbne hc33n | have hc33m := isIx_t hc33n | have hc33m := isIx_f hc33n | have hc33m := inR_t hc33n | have hc33m := inR_f hc33n | have hc33m := dec_tt hc33n | have hc33m := dec_ff hc33n | have hc33m := hc33n
                                                    try simp only [List.get_eq_getElem] at hc33n
                                                    try simp only [List.get_eq_getElem] at hc33m
                                                    try (exfalso; first | omega | (simp_all; done); done)
                                                    all_goals
                                                      refine kwp_skip ?_
                                                      refine kn_then ?_
                                                      refine kwp_seq ?_
                                                      refine kwp_region ?_
                                                      refine kops_d rfl rfl (opv_assign rfl rfl) ?_
                                                      refine kops_nil ?_
                                                      refine kn_then ?_
                                                      refine kwp_ret ?_
                                                      refine kret1 [] rfl rfl ?_ (by (repeat (first | exact Sub.refl _ | exact Sub.nil _ | refine Sub.chunk (by repeat (first | exact Pick.here | apply Pick.there)) (by first | rfl | (simp; done) | (congr 1; omega)) ?_)))
                                                      exact ⟨rfl, rfl⟩

end Go.Proofs.Ytfgialdcilldiaa
