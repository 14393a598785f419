/- The walks of some functions, each by its contract; conditions: those that each contract names. -/
import Derived.Test.YtfgialdcilldiaaKf
import Derived.Test.YtfgialdcilldiaaPa
namespace Go.Proofs.Ytfgialdcilldiaa
open Go
set_option linter.unusedVariables false
set_option linter.unusedSimpArgs false


set_option maxRecDepth 20000 in
theorem c_impl_isIndex (x n : Int) :
    Triple Try.prog 60 [.int .i64 x, .int .i64 n] [] [] (fun r ch => r = .bool (isIx x n) ∧ ch = []) := by
  refine triple_start 12 Try.func60 Try.ntmps60 rfl rfl (fun w0 => ?_)
  refine kwp_seq ?_
  refine kwp_region ?_
  refine kops_d rfl rfl (opv_assign rfl rfl) ?_
  refine kops_nil ?_
  refine kn_then ?_
  refine kwp_seq ?_
  refine kwp_region ?_
  refine kops_d rfl rfl (opv_move rfl rfl) ?_
  refine kops_d rfl rfl (opv_cmp rfl rfl rfl rfl) ?_
  refine kops_d rfl rfl (opv_move rfl rfl) ?_
  refine kops_split 7 rfl (fun hb2 => ?_) (fun hb2 => ?_)
  ·
    first | have hb2n := kb_nt hb2 | have hb2n := kb_nf hb2 | have hb2n := hb2
    first | have hb2m := of_decide_eq_true hb2n | have hb2m := of_decide_eq_false hb2n | have hb2m := kb_eq hb2n | have hb2m := kb_ne hb2n | have hb2m := kb_bne hb2n | have hb2m := kb_nbne hb2n | have hb2m := isIx_t hb2n | have hb2m := isIx_f hb2n | have hb2m := inR_t hb2n | have hb2m := inR_f hb2n | have hb2m := dec_tt hb2n | have hb2m := dec_ff hb2n | have hb2m := hb2n
    try simp only [List.get_eq_getElem] at hb2n
    try simp only [List.get_eq_getElem] at hb2m
    refine kops_gd rfl rfl rfl hb2 rfl (opv_move rfl rfl) ?_
    refine kops_gd rfl rfl rfl hb2 rfl (opv_move rfl rfl) ?_
    refine kops_gd rfl rfl rfl hb2 rfl (opv_cmp rfl rfl rfl rfl) ?_
    refine kops_d rfl rfl (opv_pick_t rfl rfl rfl hb2) ?_
    refine kops_d rfl rfl (opv_assign rfl rfl) ?_
    refine kops_nil ?_
    refine kn_then ?_
    refine kwp_ret ?_
    refine kret1 [] rfl rfl ?_ (by (repeat (first | exact Sub.refl _ | exact Sub.nil _ | refine Sub.chunk (by repeat (first | exact Pick.here | apply Pick.there)) (by first | rfl | (simp; done) | (congr 1; omega)) ?_)))
    exact ⟨by simp [isIx, *], rfl⟩
  ·
    first | have hb2n := kb_nt hb2 | have hb2n := kb_nf hb2 | have hb2n := hb2
    first | have hb2m := of_decide_eq_true hb2n | have hb2m := of_decide_eq_false hb2n | have hb2m := kb_eq hb2n | have hb2m := kb_ne hb2n | have hb2m := kb_bne hb2n | have hb2m := kb_nbne hb2n | have hb2m := isIx_t hb2n | have hb2m := isIx_f hb2n | have hb2m := inR_t hb2n | have hb2m := inR_f hb2n | have hb2m := dec_tt hb2n | have hb2m := dec_ff hb2n | have hb2m := hb2n
    try simp only [List.get_eq_getElem] at hb2n
    try simp only [List.get_eq_getElem] at hb2m
    refine kops_skip rfl rfl rfl hb2 ?_
    refine kops_skip rfl rfl rfl hb2 ?_
    refine kops_skip rfl rfl rfl hb2 ?_
    refine kops_d rfl rfl (opv_pick_f rfl rfl rfl hb2) ?_
    refine kops_d rfl rfl (opv_assign rfl rfl) ?_
    refine kops_nil ?_
    refine kn_then ?_
    refine kwp_ret ?_
    refine kret1 [] rfl rfl ?_ (by (repeat (first | exact Sub.refl _ | exact Sub.nil _ | refine Sub.chunk (by repeat (first | exact Pick.here | apply Pick.there)) (by first | rfl | (simp; done) | (congr 1; omega)) ?_)))
    exact ⟨by simp [isIx, *], rfl⟩

set_option maxRecDepth 20000 in
theorem c_impl_isWithin (x n : Int) (hn : -9223372036854775807 ≤ n ∧ n ≤ 9223372036854775807) :
    Triple Try.prog 80 [.int .i64 x, .int .i64 n] [] [] (fun r ch => r = .bool (inR x (-n) n) ∧ ch = []) := by
  refine triple_start 14 Try.func80 Try.ntmps80 rfl rfl (fun w0 => ?_)
  refine kwp_seq ?_
  refine kwp_region ?_
  refine kops_d rfl rfl (opv_assign rfl rfl) ?_
  refine kops_nil ?_
  refine kn_then ?_
  refine kwp_seq ?_
  refine kwp_region ?_
  refine kops_d rfl rfl (opv_move rfl rfl) ?_
  refine kops_d rfl rfl (opv_move rfl rfl) ?_
  refine kops_d rfl rfl (by first | exact opv_neg' rfl rfl ⟨by omega, by omega⟩ | exact opv_neg rfl rfl) ?_
  refine kops_d rfl rfl (opv_cmp rfl rfl rfl rfl) ?_
  refine kops_d rfl rfl (opv_move rfl rfl) ?_
  refine kops_split 9 rfl (fun hb2 => ?_) (fun hb2 => ?_)
  ·
    first | have hb2n := kb_nt hb2 | have hb2n := kb_nf hb2 | have hb2n := hb2
    first | have hb2m := of_decide_eq_true hb2n | have hb2m := of_decide_eq_false hb2n | have hb2m := kb_eq hb2n | have hb2m := kb_ne hb2n | have hb2m := kb_bne hb2n | have hb2m := kb_nbne hb2n | have hb2m := isIx_t hb2n | have hb2m := isIx_f hb2n | have hb2m := inR_t hb2n | have hb2m := inR_f hb2n | have hb2m := dec_tt hb2n | have hb2m := dec_ff hb2n | have hb2m := hb2n
    try simp only [List.get_eq_getElem] at hb2n
    try simp only [List.get_eq_getElem] at hb2m
    refine kops_gd rfl rfl rfl hb2 rfl (opv_move rfl rfl) ?_
    refine kops_gd rfl rfl rfl hb2 rfl (opv_move rfl rfl) ?_
    refine kops_gd rfl rfl rfl hb2 rfl (opv_cmp rfl rfl rfl rfl) ?_
    refine kops_d rfl rfl (opv_pick_t rfl rfl rfl hb2) ?_
    refine kops_d rfl rfl (opv_assign rfl rfl) ?_
    refine kops_nil ?_
    refine kn_then ?_
    refine kwp_ret ?_
    refine kret1 [] rfl rfl ?_ (by (repeat (first | exact Sub.refl _ | exact Sub.nil _ | refine Sub.chunk (by repeat (first | exact Pick.here | apply Pick.there)) (by first | rfl | (simp; done) | (congr 1; omega)) ?_)))
    exact ⟨by simp [inR, *], rfl⟩
  ·
    first | have hb2n := kb_nt hb2 | have hb2n := kb_nf hb2 | have hb2n := hb2
    first | have hb2m := of_decide_eq_true hb2n | have hb2m := of_decide_eq_false hb2n | have hb2m := kb_eq hb2n | have hb2m := kb_ne hb2n | have hb2m := kb_bne hb2n | have hb2m := kb_nbne hb2n | have hb2m := isIx_t hb2n | have hb2m := isIx_f hb2n | have hb2m := inR_t hb2n | have hb2m := inR_f hb2n | have hb2m := dec_tt hb2n | have hb2m := dec_ff hb2n | have hb2m := hb2n
    try simp only [List.get_eq_getElem] at hb2n
    try simp only [List.get_eq_getElem] at hb2m
    refine kops_skip rfl rfl rfl hb2 ?_
    refine kops_skip rfl rfl rfl hb2 ?_
    refine kops_skip rfl rfl rfl hb2 ?_
    refine kops_d rfl rfl (opv_pick_f rfl rfl rfl hb2) ?_
    refine kops_d rfl rfl (opv_assign rfl rfl) ?_
    refine kops_nil ?_
    refine kn_then ?_
    refine kwp_ret ?_
    refine kret1 [] rfl rfl ?_ (by (repeat (first | exact Sub.refl _ | exact Sub.nil _ | refine Sub.chunk (by repeat (first | exact Pick.here | apply Pick.there)) (by first | rfl | (simp; done) | (congr 1; omega)) ?_)))
    exact ⟨by simp [inR, *], rfl⟩

set_option maxRecDepth 20000 in
theorem c_spec_l1In (x a b : Int) :
    Triple Try.prog 56 [.int .i64 x, .int .i64 a, .int .i64 b] [] [] (fun r ch => r = .bool (inR x a b) ∧ ch = []) := by
  refine triple_start 15 Try.func56 Try.ntmps56 rfl rfl (fun w0 => ?_)
  refine kwp_seq ?_
  refine kwp_region ?_
  refine kops_d rfl rfl (opv_assign rfl rfl) ?_
  refine kops_nil ?_
  refine kn_then ?_
  refine kwp_seq ?_
  refine kwp_region ?_
  refine kops_d rfl rfl (opv_move rfl rfl) ?_
  refine kops_d rfl rfl (opv_move rfl rfl) ?_
  refine kops_d rfl rfl (opv_cmp rfl rfl rfl rfl) ?_
  refine kops_d rfl rfl (opv_move rfl rfl) ?_
  refine kops_split 10 rfl (fun hb2 => ?_) (fun hb2 => ?_)
  ·
    first | have hb2n := kb_nt hb2 | have hb2n := kb_nf hb2 | have hb2n := hb2
    first | have hb2m := of_decide_eq_true hb2n | have hb2m := of_decide_eq_false hb2n | have hb2m := kb_eq hb2n | have hb2m := kb_ne hb2n | have hb2m := kb_bne hb2n | have hb2m := kb_nbne hb2n | have hb2m := isIx_t hb2n | have hb2m := isIx_f hb2n | have hb2m := inR_t hb2n | have hb2m := inR_f hb2n | have hb2m := dec_tt hb2n | have hb2m := dec_ff hb2n | have hb2m := hb2n
    try simp only [List.get_eq_getElem] at hb2n
    try simp only [List.get_eq_getElem] at hb2m
    refine kops_gd rfl rfl rfl hb2 rfl (opv_move rfl rfl) ?_
    refine kops_gd rfl rfl rfl hb2 rfl (opv_move rfl rfl) ?_
    refine kops_gd rfl rfl rfl hb2 rfl (opv_cmp rfl rfl rfl rfl) ?_
    refine kops_d rfl rfl (opv_pick_t rfl rfl rfl hb2) ?_
    refine kops_d rfl rfl (opv_assign rfl rfl) ?_
    refine kops_nil ?_
    refine kn_then ?_
    refine kwp_ret ?_
    refine kret1 [] rfl rfl ?_ (by (repeat (first | exact Sub.refl _ | exact Sub.nil _ | refine Sub.chunk (by repeat (first | exact Pick.here | apply Pick.there)) (by first | rfl | (simp; done) | (congr 1; omega)) ?_)))
    exact ⟨by simp [inR, *], rfl⟩
  ·
    first | have hb2n := kb_nt hb2 | have hb2n := kb_nf hb2 | have hb2n := hb2
    first | have hb2m := of_decide_eq_true hb2n | have hb2m := of_decide_eq_false hb2n | have hb2m := kb_eq hb2n | have hb2m := kb_ne hb2n | have hb2m := kb_bne hb2n | have hb2m := kb_nbne hb2n | have hb2m := isIx_t hb2n | have hb2m := isIx_f hb2n | have hb2m := inR_t hb2n | have hb2m := inR_f hb2n | have hb2m := dec_tt hb2n | have hb2m := dec_ff hb2n | have hb2m := hb2n
    try simp only [List.get_eq_getElem] at hb2n
    try simp only [List.get_eq_getElem] at hb2m
    refine kops_skip rfl rfl rfl hb2 ?_
    refine kops_skip rfl rfl rfl hb2 ?_
    refine kops_skip rfl rfl rfl hb2 ?_
    refine kops_d rfl rfl (opv_pick_f rfl rfl rfl hb2) ?_
    refine kops_d rfl rfl (opv_assign rfl rfl) ?_
    refine kops_nil ?_
    refine kn_then ?_
    refine kwp_ret ?_
    refine kret1 [] rfl rfl ?_ (by (repeat (first | exact Sub.refl _ | exact Sub.nil _ | refine Sub.chunk (by repeat (first | exact Pick.here | apply Pick.there)) (by first | rfl | (simp; done) | (congr 1; omega)) ?_)))
    exact ⟨by simp [inR, *], rfl⟩

set_option maxRecDepth 20000 in
theorem c_impl_fracFits (f : Frac) :
    Triple Try.prog 57 [.agg #[.int .i64 f.num, .int .i64 f.den]] [] [] (fun r ch => r = .bool (fracFits f) ∧ ch = []) := by
  refine triple_start 16 Try.func57 Try.ntmps57 rfl rfl (fun w0 => ?_)
  refine kwp_seq ?_
  refine kwp_region ?_
  refine kops_step rfl (opk_box' (e := [_, _]) 2 rfl rfl rfl rfl (by decide) (fun p1 => ?_))
  refine kops_d rfl rfl (opv_assign rfl rfl) ?_
  refine kops_nil ?_
  refine kn_then ?_
  refine kwp_seq ?_
  refine kwp_region ?_
  refine kops_d rfl rfl (opv_fab rfl rfl fa_25_0 (by repeat (first | exact List.Mem.head _ | apply List.Mem.tail))) ?_
  refine kops_d rfl rfl (opv_load rfl rfl Try.isAgg3 (by repeat (first | exact List.Mem.head _ | apply List.Mem.tail)) (by first | rfl | exact get_map (by omega) | exact fill_get (by omega) | (simp; done)) rfl) ?_
  refine kops_step rfl (opk_call rfl Try.call80 rfl (c_impl_isWithin _ _ ⟨by omega, by omega⟩) ((perm_nil _)) ((Views.nil _)) ?_)
  rintro _ _ ⟨rfl, rfl⟩
  refine kops_d rfl rfl (opv_move rfl rfl) ?_
  refine kops_split 6 rfl (fun hb2 => ?_) (fun hb2 => ?_)
  ·
    first | have hb2n := kb_nt hb2 | have hb2n := kb_nf hb2 | have hb2n := hb2
    first | have hb2m := of_decide_eq_true hb2n | have hb2m := of_decide_eq_false hb2n | have hb2m := kb_eq hb2n | have hb2m := kb_ne hb2n | have hb2m := kb_bne hb2n | have hb2m := kb_nbne hb2n | have hb2m := isIx_t hb2n | have hb2m := isIx_f hb2n | have hb2m := inR_t hb2n | have hb2m := inR_f hb2n | have hb2m := dec_tt hb2n | have hb2m := dec_ff hb2n | have hb2m := hb2n
    try simp only [List.get_eq_getElem] at hb2n
    try simp only [List.get_eq_getElem] at hb2m
    refine kops_gd rfl rfl rfl hb2 rfl (opv_fab rfl rfl fa_25_1 (by repeat (first | exact List.Mem.head _ | apply List.Mem.tail))) ?_
    refine kops_gd rfl rfl rfl hb2 rfl (opv_load rfl rfl Try.isAgg3 (by repeat (first | exact List.Mem.head _ | apply List.Mem.tail)) (by first | rfl | exact get_map (by omega) | exact fill_get (by omega) | (simp; done)) rfl) ?_
    refine kops_gd rfl rfl rfl hb2 rfl (opv_cmp rfl rfl rfl rfl) ?_
    refine kops_d rfl rfl (opv_pick_t rfl rfl rfl hb2) ?_
    refine kops_d rfl rfl (opv_move rfl rfl) ?_
    refine kops_split 11 rfl (fun hb4 => ?_) (fun hb4 => ?_)
    ·
      first | have hb4n := kb_nt hb4 | have hb4n := kb_nf hb4 | have hb4n := hb4
      first | have hb4m := of_decide_eq_true hb4n | have hb4m := of_decide_eq_false hb4n | have hb4m := kb_eq hb4n | have hb4m := kb_ne hb4n | have hb4m := kb_bne hb4n | have hb4m := kb_nbne hb4n | have hb4m := isIx_t hb4n | have hb4m := isIx_f hb4n | have hb4m := inR_t hb4n | have hb4m := inR_f hb4n | have hb4m := dec_tt hb4n | have hb4m := dec_ff hb4n | have hb4m := hb4n
      try simp only [List.get_eq_getElem] at hb4n
      try simp only [List.get_eq_getElem] at hb4m
      refine kops_gd rfl rfl rfl hb4 rfl (opv_fab rfl rfl fa_25_1 (by repeat (first | exact List.Mem.head _ | apply List.Mem.tail))) ?_
      refine kops_gd rfl rfl rfl hb4 rfl (opv_load rfl rfl Try.isAgg3 (by repeat (first | exact List.Mem.head _ | apply List.Mem.tail)) (by first | rfl | exact get_map (by omega) | exact fill_get (by omega) | (simp; done)) rfl) ?_
      refine kops_gd rfl rfl rfl hb4 rfl (opv_cmp rfl rfl rfl rfl) ?_
      refine kops_d rfl rfl (opv_pick_t rfl rfl rfl hb4) ?_
      refine kops_d rfl rfl (opv_assign rfl rfl) ?_
      refine kops_nil ?_
      refine kn_then ?_
      refine kwp_ret ?_
      refine kret1 [] rfl rfl ?_ (by (repeat (first | exact Sub.refl _ | exact Sub.nil _ | refine Sub.chunk (by repeat (first | exact Pick.here | apply Pick.there)) (by first | rfl | (simp; done) | (congr 1; omega)) ?_)))
      exact ⟨by simp [fracFits, inR, *], rfl⟩
    ·
      first | have hb4n := kb_nt hb4 | have hb4n := kb_nf hb4 | have hb4n := hb4
      first | have hb4m := of_decide_eq_true hb4n | have hb4m := of_decide_eq_false hb4n | have hb4m := kb_eq hb4n | have hb4m := kb_ne hb4n | have hb4m := kb_bne hb4n | have hb4m := kb_nbne hb4n | have hb4m := isIx_t hb4n | have hb4m := isIx_f hb4n | have hb4m := inR_t hb4n | have hb4m := inR_f hb4n | have hb4m := dec_tt hb4n | have hb4m := dec_ff hb4n | have hb4m := hb4n
      try simp only [List.get_eq_getElem] at hb4n
      try simp only [List.get_eq_getElem] at hb4m
      refine kops_skip rfl rfl rfl hb4 ?_
      refine kops_skip rfl rfl rfl hb4 ?_
      refine kops_skip rfl rfl rfl hb4 ?_
      refine kops_d rfl rfl (opv_pick_f rfl rfl rfl hb4) ?_
      refine kops_d rfl rfl (opv_assign rfl rfl) ?_
      refine kops_nil ?_
      refine kn_then ?_
      refine kwp_ret ?_
      refine kret1 [] rfl rfl ?_ (by (repeat (first | exact Sub.refl _ | exact Sub.nil _ | refine Sub.chunk (by repeat (first | exact Pick.here | apply Pick.there)) (by first | rfl | (simp; done) | (congr 1; omega)) ?_)))
      exact ⟨by simp [fracFits, inR, *], rfl⟩
  ·
    first | have hb2n := kb_nt hb2 | have hb2n := kb_nf hb2 | have hb2n := hb2
    first | have hb2m := of_decide_eq_true hb2n | have hb2m := of_decide_eq_false hb2n | have hb2m := kb_eq hb2n | have hb2m := kb_ne hb2n | have hb2m := kb_bne hb2n | have hb2m := kb_nbne hb2n | have hb2m := isIx_t hb2n | have hb2m := isIx_f hb2n | have hb2m := inR_t hb2n | have hb2m := inR_f hb2n | have hb2m := dec_tt hb2n | have hb2m := dec_ff hb2n | have hb2m := hb2n
    try simp only [List.get_eq_getElem] at hb2n
    try simp only [List.get_eq_getElem] at hb2m
    refine kops_skip rfl rfl rfl hb2 ?_
    refine kops_skip rfl rfl rfl hb2 ?_
    refine kops_skip rfl rfl rfl hb2 ?_
    refine kops_d rfl rfl (opv_pick_f rfl rfl rfl hb2) ?_
    refine kops_d rfl rfl (opv_move rfl rfl) ?_
    refine kops_skip rfl rfl rfl rfl ?_
    refine kops_skip rfl rfl rfl rfl ?_
    refine kops_skip rfl rfl rfl rfl ?_
    refine kops_d rfl rfl (opv_pick_f rfl rfl rfl rfl) ?_
    refine kops_d rfl rfl (opv_assign rfl rfl) ?_
    refine kops_nil ?_
    refine kn_then ?_
    refine kwp_ret ?_
    refine kret1 [] rfl rfl ?_ (by (repeat (first | exact Sub.refl _ | exact Sub.nil _ | refine Sub.chunk (by repeat (first | exact Pick.here | apply Pick.there)) (by first | rfl | (simp; done) | (congr 1; omega)) ?_)))
    exact ⟨by simp [fracFits, inR, *], rfl⟩

set_option maxRecDepth 20000 in
theorem c_impl_FracLess (f g : Frac) :
    Triple Try.prog 17 [.agg #[.int .i64 f.num, .int .i64 f.den], .agg #[.int .i64 g.num, .int .i64 g.den]] [] [] (fun r ch => r = .bool (fracLess f g) ∧ ch = []) := by
  refine triple_start 24 Try.func17 Try.ntmps17 rfl rfl (fun w0 => ?_)
  refine kwp_seq ?_
  refine kwp_region ?_
  refine kops_step rfl (opk_box' (e := [_, _]) 2 rfl rfl rfl rfl (by decide) (fun p2 => ?_))
  refine kops_step rfl (opk_box' (e := [_, _]) 2 rfl rfl rfl rfl (by decide) (fun p3 => ?_))
  refine kops_d rfl rfl (opv_assign rfl rfl) ?_
  refine kops_nil ?_
  refine kn_then ?_
  refine kwp_seq ?_
  refine kwp_seq ?_
  refine kwp_region ?_
  refine kops_d rfl rfl (opv_load_box rfl rfl Try.isAgg25 Try.sizeOf25 (by repeat (first | exact List.Mem.head _ | apply List.Mem.tail))) ?_
  refine kops_step rfl (opk_call rfl Try.call57 rfl (c_impl_fracFits ⟨_, _⟩) ((perm_nil _)) ((Views.nil _)) ?_)
  rintro _ _ ⟨rfl, rfl⟩
  refine kops_d rfl rfl (opv_not rfl rfl) ?_
  refine kops_d rfl rfl (opv_move rfl rfl) ?_
  refine kops_split 8 rfl (fun hb3 => ?_) (fun hb3 => ?_)
  ·
    first | have hb3n := kb_nt hb3 | have hb3n := kb_nf hb3 | have hb3n := hb3
    first | have hb3m := of_decide_eq_true hb3n | have hb3m := of_decide_eq_false hb3n | have hb3m := kb_eq hb3n | have hb3m := kb_ne hb3n | have hb3m := kb_bne hb3n | have hb3m := kb_nbne hb3n | have hb3m := isIx_t hb3n | have hb3m := isIx_f hb3n | have hb3m := inR_t hb3n | have hb3m := inR_f hb3n | have hb3m := dec_tt hb3n | have hb3m := dec_ff hb3n | have hb3m := hb3n
    try simp only [List.get_eq_getElem] at hb3n
    try simp only [List.get_eq_getElem] at hb3m
    refine kops_skip rfl rfl rfl hb3 ?_
    refine kops_skip rfl rfl rfl hb3 ?_
    refine kops_skip rfl rfl rfl hb3 ?_
    refine kops_d rfl rfl (opv_pick_t rfl rfl rfl hb3) ?_
    refine kops_nil ?_
    refine kn_then ?_
    refine kwp_cond_t rfl rfl ?_
    refine kwp_seq ?_
    refine kwp_region ?_
    refine kops_d rfl rfl (opv_assign rfl rfl) ?_
    refine kops_nil ?_
    refine kn_then ?_
    refine kwp_ret ?_
    refine kr_then ?_
    refine kret1 [] rfl rfl ?_ (by (repeat (first | exact Sub.refl _ | exact Sub.nil _ | refine Sub.chunk (by repeat (first | exact Pick.here | apply Pick.there)) (by first | rfl | (simp; done) | (congr 1; omega)) ?_)))
    exact ⟨by simp [fracLess, *], rfl⟩
  ·
    first | have hb3n := kb_nt hb3 | have hb3n := kb_nf hb3 | have hb3n := hb3
    first | have hb3m := of_decide_eq_true hb3n | have hb3m := of_decide_eq_false hb3n | have hb3m := kb_eq hb3n | have hb3m := kb_ne hb3n | have hb3m := kb_bne hb3n | have hb3m := kb_nbne hb3n | have hb3m := isIx_t hb3n | have hb3m := isIx_f hb3n | have hb3m := inR_t hb3n | have hb3m := inR_f hb3n | have hb3m := dec_tt hb3n | have hb3m := dec_ff hb3n | have hb3m := hb3n
    try simp only [List.get_eq_getElem] at hb3n
    try simp only [List.get_eq_getElem] at hb3m
    refine kops_gd rfl rfl rfl hb3 rfl (opv_load_box rfl rfl Try.isAgg25 Try.sizeOf25 (by repeat (first | exact List.Mem.head _ | apply List.Mem.tail))) ?_
    refine kops_gk rfl rfl rfl hb3 (opk_call rfl Try.call57 rfl (c_impl_fracFits ⟨_, _⟩) ((perm_nil _)) ((Views.nil _)) ?_)
    rintro _ _ ⟨rfl, rfl⟩
    refine kops_gd rfl rfl rfl hb3 rfl (opv_not rfl rfl) ?_
    refine kops_d rfl rfl (opv_pick_f rfl rfl rfl hb3) ?_
    refine kops_nil ?_
    refine kn_then ?_
    refine kwp_cond rfl (fun hc6 => ?_) (fun hc6 => ?_)
    ·
      first | have hc6n := kb_nt hc6 | have hc6n := kb_nf hc6 | have hc6n := hc6
      first | have hc6m := of_decide_eq_true hc6n | have hc6m := of_decide_eq_false hc6n | have hc6m := kb_eq hc6n | have hc6m := kb_ne hc6n | have hc6m := kb_bne hc6n | have hc6m := kb_nbne hc6n | have hc6m := isIx_t hc6n | have hc6m := isIx_f hc6n | have hc6m := inR_t hc6n | have hc6m := inR_f hc6n | have hc6m := dec_tt hc6n | have hc6m := dec_ff hc6n | have hc6m := hc6n
      try simp only [List.get_eq_getElem] at hc6n
      try simp only [List.get_eq_getElem] at hc6m
      refine kwp_seq ?_
      refine kwp_region ?_
      refine kops_d rfl rfl (opv_assign rfl rfl) ?_
      refine kops_nil ?_
      refine kn_then ?_
      refine kwp_ret ?_
      refine kr_then ?_
      refine kret1 [] rfl rfl ?_ (by (repeat (first | exact Sub.refl _ | exact Sub.nil _ | refine Sub.chunk (by repeat (first | exact Pick.here | apply Pick.there)) (by first | rfl | (simp; done) | (congr 1; omega)) ?_)))
      exact ⟨by simp [fracLess, *], rfl⟩
    ·
      first | have hc6n := kb_nt hc6 | have hc6n := kb_nf hc6 | have hc6n := hc6
      first | have hc6m := of_decide_eq_true hc6n | have hc6m := of_decide_eq_false hc6n | have hc6m := kb_eq hc6n | have hc6m := kb_ne hc6n | have hc6m := kb_bne hc6n | have hc6m := kb_nbne hc6n | have hc6m := isIx_t hc6n | have hc6m := isIx_f hc6n | have hc6m := inR_t hc6n | have hc6m := inR_f hc6n | have hc6m := dec_tt hc6n | have hc6m := dec_ff hc6n | have hc6m := hc6n
      try simp only [List.get_eq_getElem] at hc6n
      try simp only [List.get_eq_getElem] at hc6m
      refine kwp_skip ?_
      refine kn_then ?_
      refine kwp_seq ?_
      refine kwp_region ?_
      refine kops_d rfl rfl (opv_fab rfl rfl fa_25_0 (by repeat (first | exact List.Mem.head _ | apply List.Mem.tail))) ?_
      refine kops_d rfl rfl (opv_load rfl rfl Try.isAgg3 (by repeat (first | exact List.Mem.head _ | apply List.Mem.tail)) (by first | rfl | exact get_map (by omega) | exact fill_get (by omega) | (simp; done)) rfl) ?_
      refine kops_d rfl rfl (opv_fab rfl rfl fa_25_1 (by repeat (first | exact List.Mem.head _ | apply List.Mem.tail))) ?_
      refine kops_d rfl rfl (opv_load rfl rfl Try.isAgg3 (by repeat (first | exact List.Mem.head _ | apply List.Mem.tail)) (by first | rfl | exact get_map (by omega) | exact fill_get (by omega) | (simp; done)) rfl) ?_
      refine kops_d rfl rfl (by first | exact opv_mul rfl rfl rfl ⟨by omega, by omega⟩ | exact opv_ari rfl rfl rfl rfl) ?_
      refine kops_d rfl rfl (opv_fab rfl rfl fa_25_0 (by repeat (first | exact List.Mem.head _ | apply List.Mem.tail))) ?_
      refine kops_d rfl rfl (opv_load rfl rfl Try.isAgg3 (by repeat (first | exact List.Mem.head _ | apply List.Mem.tail)) (by first | rfl | exact get_map (by omega) | exact fill_get (by omega) | (simp; done)) rfl) ?_
      refine kops_d rfl rfl (opv_fab rfl rfl fa_25_1 (by repeat (first | exact List.Mem.head _ | apply List.Mem.tail))) ?_
      refine kops_d rfl rfl (opv_load rfl rfl Try.isAgg3 (by repeat (first | exact List.Mem.head _ | apply List.Mem.tail)) (by first | rfl | exact get_map (by omega) | exact fill_get (by omega) | (simp; done)) rfl) ?_
      refine kops_d rfl rfl (by first | exact opv_mul rfl rfl rfl ⟨by omega, by omega⟩ | exact opv_ari rfl rfl rfl rfl) ?_
      refine kops_d rfl rfl (opv_cmp rfl rfl rfl rfl) ?_
      refine kops_d rfl rfl (opv_assign rfl rfl) ?_
      refine kops_nil ?_
      refine kn_then ?_
      refine kwp_ret ?_
      refine kret1 [] rfl rfl ?_ (by (repeat (first | exact Sub.refl _ | exact Sub.nil _ | refine Sub.chunk (by repeat (first | exact Pick.here | apply Pick.there)) (by first | rfl | (simp; done) | (congr 1; omega)) ?_)))
      exact ⟨by simp [fracLess, *], rfl⟩

set_option maxRecDepth 20000 in
theorem c_spec_FracLess (f g : Frac) :
    Triple Try.prog 15 [.agg #[.int .i64 f.num, .int .i64 f.den], .agg #[.int .i64 g.num, .int .i64 g.den]] [] [] (fun r ch => r = .bool (fracLess f g) ∧ ch = []) := by
  refine triple_start 36 Try.func15 Try.ntmps15 rfl rfl (fun w0 => ?_)
  refine kwp_seq ?_
  refine kwp_region ?_
  refine kops_step rfl (opk_box' (e := [_, _]) 2 rfl rfl rfl rfl (by decide) (fun p2 => ?_))
  refine kops_step rfl (opk_box' (e := [_, _]) 2 rfl rfl rfl rfl (by decide) (fun p3 => ?_))
  refine kops_d rfl rfl (opv_assign rfl rfl) ?_
  refine kops_nil ?_
  refine kn_then ?_
  refine kwp_seq ?_
  refine kwp_region ?_
  refine kops_d rfl rfl (opv_fab rfl rfl fa_25_0 (by repeat (first | exact List.Mem.head _ | apply List.Mem.tail))) ?_
  refine kops_d rfl rfl (opv_load rfl rfl Try.isAgg3 (by repeat (first | exact List.Mem.head _ | apply List.Mem.tail)) (by first | rfl | exact get_map (by omega) | exact fill_get (by omega) | (simp; done)) rfl) ?_
  refine kops_step rfl (opk_call rfl Try.call56 rfl (c_spec_l1In _ _ _) ((perm_nil _)) ((Views.nil _)) ?_)
  rintro _ _ ⟨rfl, rfl⟩
  refine kops_d rfl rfl (opv_move rfl rfl) ?_
  refine kops_split 8 rfl (fun hb2 => ?_) (fun hb2 => ?_)
  ·
    first | have hb2n := kb_nt hb2 | have hb2n := kb_nf hb2 | have hb2n := hb2
    first | have hb2m := of_decide_eq_true hb2n | have hb2m := of_decide_eq_false hb2n | have hb2m := kb_eq hb2n | have hb2m := kb_ne hb2n | have hb2m := kb_bne hb2n | have hb2m := kb_nbne hb2n | have hb2m := isIx_t hb2n | have hb2m := isIx_f hb2n | have hb2m := inR_t hb2n | have hb2m := inR_f hb2n | have hb2m := dec_tt hb2n | have hb2m := dec_ff hb2n | have hb2m := hb2n
    try simp only [List.get_eq_getElem] at hb2n
    try simp only [List.get_eq_getElem] at hb2m
    refine kops_gd rfl rfl rfl hb2 rfl (opv_fab rfl rfl fa_25_0 (by repeat (first | exact List.Mem.head _ | apply List.Mem.tail))) ?_
    refine kops_gd rfl rfl rfl hb2 rfl (opv_load rfl rfl Try.isAgg3 (by repeat (first | exact List.Mem.head _ | apply List.Mem.tail)) (by first | rfl | exact get_map (by omega) | exact fill_get (by omega) | (simp; done)) rfl) ?_
    refine kops_gk rfl rfl rfl hb2 (opk_call rfl Try.call56 rfl (c_spec_l1In _ _ _) ((perm_nil _)) ((Views.nil _)) ?_)
    rintro _ _ ⟨rfl, rfl⟩
    refine kops_d rfl rfl (opv_pick_t rfl rfl rfl hb2) ?_
    refine kops_d rfl rfl (opv_move rfl rfl) ?_
    refine kops_split 13 rfl (fun hb4 => ?_) (fun hb4 => ?_)
    ·
      first | have hb4n := kb_nt hb4 | have hb4n := kb_nf hb4 | have hb4n := hb4
      first | have hb4m := of_decide_eq_true hb4n | have hb4m := of_decide_eq_false hb4n | have hb4m := kb_eq hb4n | have hb4m := kb_ne hb4n | have hb4m := kb_bne hb4n | have hb4m := kb_nbne hb4n | have hb4m := isIx_t hb4n | have hb4m := isIx_f hb4n | have hb4m := inR_t hb4n | have hb4m := inR_f hb4n | have hb4m := dec_tt hb4n | have hb4m := dec_ff hb4n | have hb4m := hb4n
      try simp only [List.get_eq_getElem] at hb4n
      try simp only [List.get_eq_getElem] at hb4m
      refine kops_gd rfl rfl rfl hb4 rfl (opv_fab rfl rfl fa_25_1 (by repeat (first | exact List.Mem.head _ | apply List.Mem.tail))) ?_
      refine kops_gd rfl rfl rfl hb4 rfl (opv_load rfl rfl Try.isAgg3 (by repeat (first | exact List.Mem.head _ | apply List.Mem.tail)) (by first | rfl | exact get_map (by omega) | exact fill_get (by omega) | (simp; done)) rfl) ?_
      refine kops_gk rfl rfl rfl hb4 (opk_call rfl Try.call56 rfl (c_spec_l1In _ _ _) ((perm_nil _)) ((Views.nil _)) ?_)
      rintro _ _ ⟨rfl, rfl⟩
      refine kops_d rfl rfl (opv_pick_t rfl rfl rfl hb4) ?_
      refine kops_d rfl rfl (opv_move rfl rfl) ?_
      refine kops_split 18 rfl (fun hb6 => ?_) (fun hb6 => ?_)
      ·
        first | have hb6n := kb_nt hb6 | have hb6n := kb_nf hb6 | have hb6n := hb6
        first | have hb6m := of_decide_eq_true hb6n | have hb6m := of_decide_eq_false hb6n | have hb6m := kb_eq hb6n | have hb6m := kb_ne hb6n | have hb6m := kb_bne hb6n | have hb6m := kb_nbne hb6n | have hb6m := isIx_t hb6n | have hb6m := isIx_f hb6n | have hb6m := inR_t hb6n | have hb6m := inR_f hb6n | have hb6m := dec_tt hb6n | have hb6m := dec_ff hb6n | have hb6m := hb6n
        try simp only [List.get_eq_getElem] at hb6n
        try simp only [List.get_eq_getElem] at hb6m
        refine kops_gd rfl rfl rfl hb6 rfl (opv_fab rfl rfl fa_25_1 (by repeat (first | exact List.Mem.head _ | apply List.Mem.tail))) ?_
        refine kops_gd rfl rfl rfl hb6 rfl (opv_load rfl rfl Try.isAgg3 (by repeat (first | exact List.Mem.head _ | apply List.Mem.tail)) (by first | rfl | exact get_map (by omega) | exact fill_get (by omega) | (simp; done)) rfl) ?_
        refine kops_gk rfl rfl rfl hb6 (opk_call rfl Try.call56 rfl (c_spec_l1In _ _ _) ((perm_nil _)) ((Views.nil _)) ?_)
        rintro _ _ ⟨rfl, rfl⟩
        refine kops_d rfl rfl (opv_pick_t rfl rfl rfl hb6) ?_
        refine kops_d rfl rfl (opv_move rfl rfl) ?_
        refine kops_split 23 rfl (fun hb8 => ?_) (fun hb8 => ?_)
        ·
          first | have hb8n := kb_nt hb8 | have hb8n := kb_nf hb8 | have hb8n := hb8
          first | have hb8m := of_decide_eq_true hb8n | have hb8m := of_decide_eq_false hb8n | have hb8m := kb_eq hb8n | have hb8m := kb_ne hb8n | have hb8m := kb_bne hb8n | have hb8m := kb_nbne hb8n | have hb8m := isIx_t hb8n | have hb8m := isIx_f hb8n | have hb8m := inR_t hb8n | have hb8m := inR_f hb8n | have hb8m := dec_tt hb8n | have hb8m := dec_ff hb8n | have hb8m := hb8n
          try simp only [List.get_eq_getElem] at hb8n
          try simp only [List.get_eq_getElem] at hb8m
          refine kops_gd rfl rfl rfl hb8 rfl (opv_fab rfl rfl fa_25_0 (by repeat (first | exact List.Mem.head _ | apply List.Mem.tail))) ?_
          refine kops_gd rfl rfl rfl hb8 rfl (opv_load rfl rfl Try.isAgg3 (by repeat (first | exact List.Mem.head _ | apply List.Mem.tail)) (by first | rfl | exact get_map (by omega) | exact fill_get (by omega) | (simp; done)) rfl) ?_
          refine kops_gd rfl rfl rfl hb8 rfl (opv_fab rfl rfl fa_25_1 (by repeat (first | exact List.Mem.head _ | apply List.Mem.tail))) ?_
          refine kops_gd rfl rfl rfl hb8 rfl (opv_load rfl rfl Try.isAgg3 (by repeat (first | exact List.Mem.head _ | apply List.Mem.tail)) (by first | rfl | exact get_map (by omega) | exact fill_get (by omega) | (simp; done)) rfl) ?_
          refine kops_gd rfl rfl rfl hb8 rfl (by first | exact opv_mul rfl rfl rfl ⟨by omega, by omega⟩ | exact opv_ari rfl rfl rfl rfl) ?_
          refine kops_gd rfl rfl rfl hb8 rfl (opv_fab rfl rfl fa_25_0 (by repeat (first | exact List.Mem.head _ | apply List.Mem.tail))) ?_
          refine kops_gd rfl rfl rfl hb8 rfl (opv_load rfl rfl Try.isAgg3 (by repeat (first | exact List.Mem.head _ | apply List.Mem.tail)) (by first | rfl | exact get_map (by omega) | exact fill_get (by omega) | (simp; done)) rfl) ?_
          refine kops_gd rfl rfl rfl hb8 rfl (opv_fab rfl rfl fa_25_1 (by repeat (first | exact List.Mem.head _ | apply List.Mem.tail))) ?_
          refine kops_gd rfl rfl rfl hb8 rfl (opv_load rfl rfl Try.isAgg3 (by repeat (first | exact List.Mem.head _ | apply List.Mem.tail)) (by first | rfl | exact get_map (by omega) | exact fill_get (by omega) | (simp; done)) rfl) ?_
          refine kops_gd rfl rfl rfl hb8 rfl (by first | exact opv_mul rfl rfl rfl ⟨by omega, by omega⟩ | exact opv_ari rfl rfl rfl rfl) ?_
          refine kops_gd rfl rfl rfl hb8 rfl (opv_cmp rfl rfl rfl rfl) ?_
          refine kops_d rfl rfl (opv_pick_t rfl rfl rfl hb8) ?_
          refine kops_d rfl rfl (opv_assign rfl rfl) ?_
          refine kops_nil ?_
          refine kn_then ?_
          refine kwp_ret ?_
          refine kret1 [] rfl rfl ?_ (by (repeat (first | exact Sub.refl _ | exact Sub.nil _ | refine Sub.chunk (by repeat (first | exact Pick.here | apply Pick.there)) (by first | rfl | (simp; done) | (congr 1; omega)) ?_)))
          exact ⟨by simp [fracLess, fracFits, *], rfl⟩
        ·
          first | have hb8n := kb_nt hb8 | have hb8n := kb_nf hb8 | have hb8n := hb8
          first | have hb8m := of_decide_eq_true hb8n | have hb8m := of_decide_eq_false hb8n | have hb8m := kb_eq hb8n | have hb8m := kb_ne hb8n | have hb8m := kb_bne hb8n | have hb8m := kb_nbne hb8n | have hb8m := isIx_t hb8n | have hb8m := isIx_f hb8n | have hb8m := inR_t hb8n | have hb8m := inR_f hb8n | have hb8m := dec_tt hb8n | have hb8m := dec_ff hb8n | have hb8m := hb8n
          try simp only [List.get_eq_getElem] at hb8n
          try simp only [List.get_eq_getElem] at hb8m
          refine kops_skip rfl rfl rfl hb8 ?_
          refine kops_skip rfl rfl rfl hb8 ?_
          refine kops_skip rfl rfl rfl hb8 ?_
          refine kops_skip rfl rfl rfl hb8 ?_
          refine kops_skip rfl rfl rfl hb8 ?_
          refine kops_skip rfl rfl rfl hb8 ?_
          refine kops_skip rfl rfl rfl hb8 ?_
          refine kops_skip rfl rfl rfl hb8 ?_
          refine kops_skip rfl rfl rfl hb8 ?_
          refine kops_skip rfl rfl rfl hb8 ?_
          refine kops_skip rfl rfl rfl hb8 ?_
          refine kops_d rfl rfl (opv_pick_f rfl rfl rfl hb8) ?_
          refine kops_d rfl rfl (opv_assign rfl rfl) ?_
          refine kops_nil ?_
          refine kn_then ?_
          refine kwp_ret ?_
          refine kret1 [] rfl rfl ?_ (by (repeat (first | exact Sub.refl _ | exact Sub.nil _ | refine Sub.chunk (by repeat (first | exact Pick.here | apply Pick.there)) (by first | rfl | (simp; done) | (congr 1; omega)) ?_)))
          exact ⟨by simp [fracLess, fracFits, *], rfl⟩
      ·
        first | have hb6n := kb_nt hb6 | have hb6n := kb_nf hb6 | have hb6n := hb6
        first | have hb6m := of_decide_eq_true hb6n | have hb6m := of_decide_eq_false hb6n | have hb6m := kb_eq hb6n | have hb6m := kb_ne hb6n | have hb6m := kb_bne hb6n | have hb6m := kb_nbne hb6n | have hb6m := isIx_t hb6n | have hb6m := isIx_f hb6n | have hb6m := inR_t hb6n | have hb6m := inR_f hb6n | have hb6m := dec_tt hb6n | have hb6m := dec_ff hb6n | have hb6m := hb6n
        try simp only [List.get_eq_getElem] at hb6n
        try simp only [List.get_eq_getElem] at hb6m
        refine kops_skip rfl rfl rfl hb6 ?_
        refine kops_skip rfl rfl rfl hb6 ?_
        refine kops_skip rfl rfl rfl hb6 ?_
        refine kops_d rfl rfl (opv_pick_f rfl rfl rfl hb6) ?_
        refine kops_d rfl rfl (opv_move rfl rfl) ?_
        refine kops_skip rfl rfl rfl rfl ?_
        refine kops_skip rfl rfl rfl rfl ?_
        refine kops_skip rfl rfl rfl rfl ?_
        refine kops_skip rfl rfl rfl rfl ?_
        refine kops_skip rfl rfl rfl rfl ?_
        refine kops_skip rfl rfl rfl rfl ?_
        refine kops_skip rfl rfl rfl rfl ?_
        refine kops_skip rfl rfl rfl rfl ?_
        refine kops_skip rfl rfl rfl rfl ?_
        refine kops_skip rfl rfl rfl rfl ?_
        refine kops_skip rfl rfl rfl rfl ?_
        refine kops_d rfl rfl (opv_pick_f rfl rfl rfl rfl) ?_
        refine kops_d rfl rfl (opv_assign rfl rfl) ?_
        refine kops_nil ?_
        refine kn_then ?_
        refine kwp_ret ?_
        refine kret1 [] rfl rfl ?_ (by (repeat (first | exact Sub.refl _ | exact Sub.nil _ | refine Sub.chunk (by repeat (first | exact Pick.here | apply Pick.there)) (by first | rfl | (simp; done) | (congr 1; omega)) ?_)))
        exact ⟨by simp [fracLess, fracFits, *], rfl⟩
    ·
      first | have hb4n := kb_nt hb4 | have hb4n := kb_nf hb4 | have hb4n := hb4
      first | have hb4m := of_decide_eq_true hb4n | have hb4m := of_decide_eq_false hb4n | have hb4m := kb_eq hb4n | have hb4m := kb_ne hb4n | have hb4m := kb_bne hb4n | have hb4m := kb_nbne hb4n | have hb4m := isIx_t hb4n | have hb4m := isIx_f hb4n | have hb4m := inR_t hb4n | have hb4m := inR_f hb4n | have hb4m := dec_tt hb4n | have hb4m := dec_ff hb4n | have hb4m := hb4n
      try simp only [List.get_eq_getElem] at hb4n
      try simp only [List.get_eq_getElem] at hb4m
      refine kops_skip rfl rfl rfl hb4 ?_
      refine kops_skip rfl rfl rfl hb4 ?_
      refine kops_skip rfl rfl rfl hb4 ?_
      refine kops_d rfl rfl (opv_pick_f rfl rfl rfl hb4) ?_
      refine kops_d rfl rfl (opv_move rfl rfl) ?_
      refine kops_skip rfl rfl rfl rfl ?_
      refine kops_skip rfl rfl rfl rfl ?_
      refine kops_skip rfl rfl rfl rfl ?_
      refine kops_d rfl rfl (opv_pick_f rfl rfl rfl rfl) ?_
      refine kops_d rfl rfl (opv_move rfl rfl) ?_
      refine kops_skip rfl rfl rfl rfl ?_
      refine kops_skip rfl rfl rfl rfl ?_
      refine kops_skip rfl rfl rfl rfl ?_
      refine kops_skip rfl rfl rfl rfl ?_
      refine kops_skip rfl rfl rfl rfl ?_
      refine kops_skip rfl rfl rfl rfl ?_
      refine kops_skip rfl rfl rfl rfl ?_
      refine kops_skip rfl rfl rfl rfl ?_
      refine kops_skip rfl rfl rfl rfl ?_
      refine kops_skip rfl rfl rfl rfl ?_
      refine kops_skip rfl rfl rfl rfl ?_
      refine kops_d rfl rfl (opv_pick_f rfl rfl rfl rfl) ?_
      refine kops_d rfl rfl (opv_assign rfl rfl) ?_
      refine kops_nil ?_
      refine kn_then ?_
      refine kwp_ret ?_
      refine kret1 [] rfl rfl ?_ (by (repeat (first | exact Sub.refl _ | exact Sub.nil _ | refine Sub.chunk (by repeat (first | exact Pick.here | apply Pick.there)) (by first | rfl | (simp; done) | (congr 1; omega)) ?_)))
      exact ⟨by simp [fracLess, fracFits, *], rfl⟩
  ·
    first | have hb2n := kb_nt hb2 | have hb2n := kb_nf hb2 | have hb2n := hb2
    first | have hb2m := of_decide_eq_true hb2n | have hb2m := of_decide_eq_false hb2n | have hb2m := kb_eq hb2n | have hb2m := kb_ne hb2n | have hb2m := kb_bne hb2n | have hb2m := kb_nbne hb2n | have hb2m := isIx_t hb2n | have hb2m := isIx_f hb2n | have hb2m := inR_t hb2n | have hb2m := inR_f hb2n | have hb2m := dec_tt hb2n | have hb2m := dec_ff hb2n | have hb2m := hb2n
    try simp only [List.get_eq_getElem] at hb2n
    try simp only [List.get_eq_getElem] at hb2m
    refine kops_skip rfl rfl rfl hb2 ?_
    refine kops_skip rfl rfl rfl hb2 ?_
    refine kops_skip rfl rfl rfl hb2 ?_
    refine kops_d rfl rfl (opv_pick_f rfl rfl rfl hb2) ?_
    refine kops_d rfl rfl (opv_move rfl rfl) ?_
    refine kops_skip rfl rfl rfl rfl ?_
    refine kops_skip rfl rfl rfl rfl ?_
    refine kops_skip rfl rfl rfl rfl ?_
    refine kops_d rfl rfl (opv_pick_f rfl rfl rfl rfl) ?_
    refine kops_d rfl rfl (opv_move rfl rfl) ?_
    refine kops_skip rfl rfl rfl rfl ?_
    refine kops_skip rfl rfl rfl rfl ?_
    refine kops_skip rfl rfl rfl rfl ?_
    refine kops_d rfl rfl (opv_pick_f rfl rfl rfl rfl) ?_
    refine kops_d rfl rfl (opv_move rfl rfl) ?_
    refine kops_skip rfl rfl rfl rfl ?_
    refine kops_skip rfl rfl rfl rfl ?_
    refine kops_skip rfl rfl rfl rfl ?_
    refine kops_skip rfl rfl rfl rfl ?_
    refine kops_skip rfl rfl rfl rfl ?_
    refine kops_skip rfl rfl rfl rfl ?_
    refine kops_skip rfl rfl rfl rfl ?_
    refine kops_skip rfl rfl rfl rfl ?_
    refine kops_skip rfl rfl rfl rfl ?_
    refine kops_skip rfl rfl rfl rfl ?_
    refine kops_skip rfl rfl rfl rfl ?_
    refine kops_d rfl rfl (opv_pick_f rfl rfl rfl rfl) ?_
    refine kops_d rfl rfl (opv_assign rfl rfl) ?_
    refine kops_nil ?_
    refine kn_then ?_
    refine kwp_ret ?_
    refine kret1 [] rfl rfl ?_ (by (repeat (first | exact Sub.refl _ | exact Sub.nil _ | refine Sub.chunk (by repeat (first | exact Pick.here | apply Pick.there)) (by first | rfl | (simp; done) | (congr 1; omega)) ?_)))
    exact ⟨by simp [fracLess, fracFits, *], rfl⟩

set_option maxRecDepth 20000 in
theorem c_laws_toFrac (f : Frac) :
    Triple Try.prog 16 [.agg #[.int .i64 f.num, .int .i64 f.den]] [] [] (fun r ch => r = .agg #[.int .i64 f.num, .int .i64 f.den] ∧ ch = []) := by
  refine triple_start 11 Try.func16 Try.ntmps16 rfl rfl (fun w0 => ?_)
  refine kwp_seq ?_
  refine kwp_region ?_
  refine kops_step rfl (opk_box' (e := [_, _]) 2 rfl rfl rfl rfl (by decide) (fun p1 => ?_))
  refine kops_step rfl (opk_alloc' (e := [_, _]) 2 rfl Try.zeroValue25 rfl rfl (by decide) (fun p2 => ?_))
  refine kops_nil ?_
  refine kn_then ?_
  refine kwp_seq ?_
  refine kwp_region ?_
  refine kops_step rfl (opk_alloc' (e := [_, _]) 2 rfl Try.zeroValue25 rfl rfl (by decide) (fun p3 => ?_))
  refine kops_nil ?_
  refine kn_then ?_
  refine kwp_seq ?_
  refine kwp_region ?_
  refine kops_d rfl rfl (opv_fab rfl rfl fa_23_0 (by repeat (first | exact List.Mem.head _ | apply List.Mem.tail))) ?_
  refine kops_d rfl rfl (opv_load rfl rfl Try.isAgg3 (by repeat (first | exact List.Mem.head _ | apply List.Mem.tail)) (by first | rfl | exact get_map (by omega) | exact fill_get (by omega) | (simp; done)) rfl) ?_
  refine kops_d rfl rfl (opv_fab rfl rfl fa_25_0 (by repeat (first | exact List.Mem.head _ | apply List.Mem.tail))) ?_
  refine kops_step rfl (opk_store rfl rfl rfl Try.sizeOf3 rfl (by repeat (first | exact Upd.here | apply Upd.there)) (by first | rfl | exact get_map (by omega) | exact fill_get (by omega) | (simp; done)) (by decide) ?_)
  refine kops_nil ?_
  refine kn_then ?_
  refine kwp_seq ?_
  refine kwp_region ?_
  refine kops_d rfl rfl (opv_fab rfl rfl fa_23_1 (by repeat (first | exact List.Mem.head _ | apply List.Mem.tail))) ?_
  refine kops_d rfl rfl (opv_load rfl rfl Try.isAgg3 (by repeat (first | exact List.Mem.head _ | apply List.Mem.tail)) (by first | rfl | exact get_map (by omega) | exact fill_get (by omega) | (simp; done)) rfl) ?_
  refine kops_d rfl rfl (opv_fab rfl rfl fa_25_1 (by repeat (first | exact List.Mem.head _ | apply List.Mem.tail))) ?_
  refine kops_step rfl (opk_store rfl rfl rfl Try.sizeOf3 rfl (by repeat (first | exact Upd.here | apply Upd.there)) (by first | rfl | exact get_map (by omega) | exact fill_get (by omega) | (simp; done)) (by decide) ?_)
  refine kops_nil ?_
  refine kn_then ?_
  refine kwp_seq ?_
  refine kwp_region ?_
  refine kops_d rfl rfl (opv_load_box rfl rfl Try.isAgg25 Try.sizeOf25 (by repeat (first | exact List.Mem.head _ | apply List.Mem.tail))) ?_
  refine kops_step rfl (opk_store_box (e' := [_, _]) rfl rfl rfl Try.sizeOf25 rfl (by first | exact one_aw | exact one_int | exact one_sill | decide | (simp [Value.oneCell']; done) | (intro x hx; simp at hx; rcases hx with rfl | rfl | rfl | rfl | rfl <;> rfl)) rfl (by repeat (first | exact Upd.here | apply Upd.there)) ?_)
  refine kops_nil ?_
  refine kn_then ?_
  refine kwp_ret ?_
  refine kretc [] rfl rfl Try.isAgg25 Try.sizeOf25 (by repeat (first | exact List.Mem.head _ | apply List.Mem.tail)) ?_ (by (repeat (first | exact Sub.refl _ | exact Sub.nil _ | refine Sub.chunk (by repeat (first | exact Pick.here | apply Pick.there)) (by first | rfl | (simp; done) | (congr 1; omega)) ?_)))
  exact ⟨rfl, rfl⟩

set_option maxRecDepth 20000 in
theorem c_laws_FnExactFracLess (f g : Frac) :
    Triple Try.prog 3 [.agg #[.int .i64 f.num, .int .i64 f.den], .agg #[.int .i64 g.num, .int .i64 g.den]] [] [] (fun r ch => r = .bool true ∧ ch = []) := by
  refine triple_start 20 Try.func3 Try.ntmps3 rfl rfl (fun w0 => ?_)
  refine kwp_seq ?_
  refine kwp_region ?_
  refine kops_step rfl (opk_box' (e := [_, _]) 2 rfl rfl rfl rfl (by decide) (fun p2 => ?_))
  refine kops_step rfl (opk_box' (e := [_, _]) 2 rfl rfl rfl rfl (by decide) (fun p3 => ?_))
  refine kops_d rfl rfl (opv_assign rfl rfl) ?_
  refine kops_nil ?_
  refine kn_then ?_
  refine kwp_seq ?_
  refine kwp_draw [(0, true), (2, true), (1, false), (3, false), (4, false), (5, true)] [] _ drawMixed (by kernel_rfl) (fun _ _ _ h => h) (Sub.refl _) ?_
  refine ks_d rfl rfl rfl (opv_load_box rfl rfl Try.isAgg23 Try.sizeOf23 (by repeat (first | exact List.Mem.head _ | apply List.Mem.tail))) ?_
  refine ks_d rfl rfl rfl (opv_load_box rfl rfl Try.isAgg23 Try.sizeOf23 (by repeat (first | exact List.Mem.head _ | apply List.Mem.tail))) ?_
  refine ks_k rfl rfl (opk_call rfl Try.call16 rfl (c_laws_toFrac ⟨_, _⟩) ((perm_nil _)) ((Views.nil _)) ?_)
  rintro _ _ ⟨rfl, rfl⟩
  refine ⟨.inl (by (repeat (first | exact Sub.refl _ | exact Sub.nil _ | refine Sub.chunk (by repeat (first | exact Pick.here | apply Pick.there)) (by first | rfl | (simp; done) | (congr 1; omega)) ?_))), ?_⟩
  refine ks_k rfl rfl (opk_call rfl Try.call16 rfl (c_laws_toFrac ⟨_, _⟩) ((perm_nil _)) ((Views.nil _)) ?_)
  rintro _ _ ⟨rfl, rfl⟩
  refine ⟨.inl (by (repeat (first | exact Sub.refl _ | exact Sub.nil _ | refine Sub.chunk (by repeat (first | exact Pick.here | apply Pick.there)) (by first | rfl | (simp; done) | (congr 1; omega)) ?_))), ?_⟩
  refine ks_k rfl rfl (opk_call rfl Try.call15 rfl (c_spec_FracLess ⟨_, _⟩ ⟨_, _⟩) ((perm_nil _)) ((Views.nil _)) ?_)
  rintro _ _ ⟨rfl, rfl⟩
  refine ⟨.inl (by (repeat (first | exact Sub.refl _ | exact Sub.nil _ | refine Sub.chunk (by repeat (first | exact Pick.here | apply Pick.there)) (by first | rfl | (simp; done) | (congr 1; omega)) ?_))), ?_⟩
  refine ks_d rfl rfl rfl (opv_assign rfl rfl) ?_
  refine ks_nil ?_
  refine kn_then ?_
  refine kwp_seq ?_
  refine kwp_draw [(0, true), (2, true), (1, false), (3, false), (4, false), (5, true)] [] _ drawMixed (by kernel_rfl) (fun _ _ _ h => h) (Sub.refl _) ?_
  refine ks_d rfl rfl rfl (opv_load_box rfl rfl Try.isAgg23 Try.sizeOf23 (by repeat (first | exact List.Mem.head _ | apply List.Mem.tail))) ?_
  refine ks_d rfl rfl rfl (opv_load_box rfl rfl Try.isAgg23 Try.sizeOf23 (by repeat (first | exact List.Mem.head _ | apply List.Mem.tail))) ?_
  refine ks_k rfl rfl (opk_call rfl Try.call16 rfl (c_laws_toFrac ⟨_, _⟩) ((perm_nil _)) ((Views.nil _)) ?_)
  rintro _ _ ⟨rfl, rfl⟩
  refine ⟨.inl (by (repeat (first | exact Sub.refl _ | exact Sub.nil _ | refine Sub.chunk (by repeat (first | exact Pick.here | apply Pick.there)) (by first | rfl | (simp; done) | (congr 1; omega)) ?_))), ?_⟩
  refine ks_k rfl rfl (opk_call rfl Try.call16 rfl (c_laws_toFrac ⟨_, _⟩) ((perm_nil _)) ((Views.nil _)) ?_)
  rintro _ _ ⟨rfl, rfl⟩
  refine ⟨.inl (by (repeat (first | exact Sub.refl _ | exact Sub.nil _ | refine Sub.chunk (by repeat (first | exact Pick.here | apply Pick.there)) (by first | rfl | (simp; done) | (congr 1; omega)) ?_))), ?_⟩
  refine ks_k rfl rfl (opk_call rfl Try.call17 rfl (c_impl_FracLess ⟨_, _⟩ ⟨_, _⟩) ((perm_nil _)) ((Views.nil _)) ?_)
  rintro _ _ ⟨rfl, rfl⟩
  refine ⟨.inl (by (repeat (first | exact Sub.refl _ | exact Sub.nil _ | refine Sub.chunk (by repeat (first | exact Pick.here | apply Pick.there)) (by first | rfl | (simp; done) | (congr 1; omega)) ?_))), ?_⟩
  refine ks_d rfl rfl rfl (opv_assign rfl rfl) ?_
  refine ks_nil ?_
  refine kn_then ?_
  refine kwp_seq ?_
  refine kwp_seq ?_
  refine kwp_region ?_
  refine kops_d rfl rfl (opv_move rfl rfl) ?_
  refine kops_d rfl rfl (opv_move rfl rfl) ?_
  refine kops_d rfl rfl (opv_neb rfl rfl rfl Try.underlying4) ?_
  refine kops_nil ?_
  refine kn_then ?_
  refine kwp_cond rfl (fun hc4 => ?_) (fun hc4 => ?_)
  ·
    first | have hc4n := kb_nt hc4 | have hc4n := kb_nf hc4 | have hc4n := hc4
    first | have hc4m := of_decide_eq_true hc4n | have hc4m := of_decide_eq_false hc4n | have hc4m := kb_eq hc4n | have hc4m := kb_ne hc4n | have hc4m := kb_bne hc4n | have hc4m := kb_nbne hc4n | have hc4m := isIx_t hc4n | have hc4m := isIx_f hc4n | have hc4m := inR_t hc4n | have hc4m := inR_f hc4n | have hc4m := dec_tt hc4n | have hc4m := dec_ff hc4n | have hc4m := hc4n
    try simp only [List.get_eq_getElem] at hc4n
    try simp only [List.get_eq_getElem] at hc4m
    try (exfalso; simp_all; done)
    all_goals
      refine kwp_seq ?_
      refine kwp_region ?_
      refine kops_d rfl rfl (opv_assign rfl rfl) ?_
      refine kops_nil ?_
      refine kn_then ?_
      refine kwp_ret ?_
      refine kr_then ?_
      refine kret1 [] rfl rfl ?_ (by (repeat (first | exact Sub.refl _ | exact Sub.nil _ | refine Sub.chunk (by repeat (first | exact Pick.here | apply Pick.there)) (by first | rfl | (simp; done) | (congr 1; omega)) ?_)))
      exact ⟨rfl, rfl⟩
  ·
    first | have hc4n := kb_nt hc4 | have hc4n := kb_nf hc4 | have hc4n := hc4
    first | have hc4m := of_decide_eq_true hc4n | have hc4m := of_decide_eq_false hc4n | have hc4m := kb_eq hc4n | have hc4m := kb_ne hc4n | have hc4m := kb_bne hc4n | have hc4m := kb_nbne hc4n | have hc4m := isIx_t hc4n | have hc4m := isIx_f hc4n | have hc4m := inR_t hc4n | have hc4m := inR_f hc4n | have hc4m := dec_tt hc4n | have hc4m := dec_ff hc4n | have hc4m := hc4n
    try simp only [List.get_eq_getElem] at hc4n
    try simp only [List.get_eq_getElem] at hc4m
    try (exfalso; simp_all; done)
    all_goals
      refine kwp_skip ?_
      refine kn_then ?_
      refine kwp_seq ?_
      refine kwp_region ?_
      refine kops_d rfl rfl (opv_assign rfl rfl) ?_
      refine kops_nil ?_
      refine kn_then ?_
      refine kwp_ret ?_
      refine kret1 [] rfl rfl ?_ (by (repeat (first | exact Sub.refl _ | exact Sub.nil _ | refine Sub.chunk (by repeat (first | exact Pick.here | apply Pick.there)) (by first | rfl | (simp; done) | (congr 1; omega)) ?_)))
      exact ⟨rfl, rfl⟩

end Go.Proofs.Ytfgialdcilldiaa
