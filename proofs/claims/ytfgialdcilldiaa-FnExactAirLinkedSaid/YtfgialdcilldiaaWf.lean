/- The walks of some functions, each by its contract; conditions: those that each contract names. -/
import Derived.Test.YtfgialdcilldiaaWe
namespace Go.Proofs.Ytfgialdcilldiaa
open Go
set_option linter.unusedVariables false
set_option linter.unusedSimpArgs false


set_option maxRecDepth 20000 in
theorem c_impl_flowFits (p : Int) (a : Option Addr) (n c : Nat) (l : List Airway) (a2 : Option Addr) (n2 c2 : Nat) (fl : List Int) (hb : n ≤ 9223372036854775807 ∧ n2 ≤ 9223372036854775807) :
    Triple Try.prog 66 [.agg #[.int .i64 p, .slice a n c], .slice a2 n2 c2] [⟨.slice a n c, 3, l.map encAirway⟩, ⟨.slice a2 n2 c2, 1, fl.map encI⟩] [] (fun r ch => r = .bool (dec (FlowFits n fl)) ∧ ch = []) := by
  refine triple_start 23 Try.func66 Try.ntmps66 rfl rfl (fun w0 => ?_)
  refine kwp_len (List.Mem.head _) (fun hn => ?_)
  refine kwp_len (List.Mem.tail _ (List.Mem.head _)) (fun hn2 => ?_)
  simp only [List.length_map] at hn hn2
  subst hn hn2
  refine kwp_seq ?_
  refine kwp_region ?_
  refine kops_step rfl (opk_box' (e := [_, _]) 2 rfl rfl rfl rfl (by decide) (fun p2 => ?_))
  refine kops_d rfl rfl (opv_assign rfl rfl) ?_
  refine kops_nil ?_
  refine kn_then ?_
  refine kwp_seq ?_
  refine kwp_seq ?_
  refine kwp_region ?_
  refine kops_d rfl rfl (opv_move rfl rfl) ?_
  refine kops_d rfl rfl (opv_len rfl rfl rfl Try.runUnderlying39) ?_
  refine kops_d rfl rfl (opv_fab rfl rfl fa_35_1 (by repeat (first | exact List.Mem.head _ | apply List.Mem.tail))) ?_
  refine kops_d rfl rfl (opv_load rfl rfl Try.isAgg33 (by repeat (first | exact List.Mem.head _ | apply List.Mem.tail)) (by first | rfl | exact gx_map (by omega) | exact fill_get (by omega) | (simp; done)) rfl) ?_
  refine kops_d rfl rfl (opv_len rfl rfl rfl Try.runUnderlying33) ?_
  refine kops_d rfl rfl (opv_cmp rfl rfl rfl rfl) ?_
  refine kops_nil ?_
  refine kn_then ?_
  refine kwp_cond rfl (fun hc2 => ?_) (fun hc2 => ?_)
  ·
    first | have hc2n := kb_nt hc2 | have hc2n := kb_nf hc2 | have hc2n := hc2
    first | have hc2m := of_decide_eq_true hc2n | have hc2m := of_decide_eq_false hc2n | have hc2m := kb_eq hc2n | have hc2m := kb_ne hc2n | have hc2m := kb_bne hc2n | have hc2m := kb_nbne hc2n | have hc2m := isIx_t hc2n | have hc2m := isIx_f hc2n | have hc2m := inR_t hc2n | have hc2m := inR_f hc2n | have hc2m := dec_tt hc2n | have hc2m := dec_ff hc2n | have hc2m := hc2n
    try simp only [List.get_eq_getElem] at hc2n
    try simp only [List.get_eq_getElem] at hc2m
    refine kwp_seq ?_
    refine kwp_region ?_
    refine kops_d rfl rfl (opv_assign rfl rfl) ?_
    refine kops_nil ?_
    refine kn_then ?_
    refine kwp_ret ?_
    refine kr_then ?_
    refine kret1 [] rfl rfl ?_ (by (repeat (first | exact Sub.refl _ | exact Sub.nil _ | refine Sub.chunk (by repeat (first | exact Pick.here | apply Pick.there)) (by first | rfl | (simp; done) | (congr 1; omega)) ?_)))
    first | exact ⟨by rw [dec_f (fun h => by have h1 := h.len; omega)], rfl⟩ | exact ⟨by rw [dec_f (fun h => by have h1 := h.fit k (by omega); omega)], rfl⟩ | exact ⟨by rw [dec_t ⟨by omega, fun i hi => hfit i (by omega)⟩], rfl⟩
  ·
    first | have hc2n := kb_nt hc2 | have hc2n := kb_nf hc2 | have hc2n := hc2
    first | have hc2m := of_decide_eq_true hc2n | have hc2m := of_decide_eq_false hc2n | have hc2m := kb_eq hc2n | have hc2m := kb_ne hc2n | have hc2m := kb_bne hc2n | have hc2m := kb_nbne hc2n | have hc2m := isIx_t hc2n | have hc2m := isIx_f hc2n | have hc2m := inR_t hc2n | have hc2m := inR_f hc2n | have hc2m := dec_tt hc2n | have hc2m := dec_ff hc2n | have hc2m := hc2n
    try simp only [List.get_eq_getElem] at hc2n
    try simp only [List.get_eq_getElem] at hc2m
    refine kwp_skip ?_
    refine kn_then ?_
    refine kwp_seq ?_
    refine kwp_seq ?_
    refine kwp_region ?_
    refine kops_d rfl rfl (opv_move rfl rfl) ?_
    refine kops_d rfl rfl (opv_len rfl rfl rfl Try.runUnderlying39) ?_
    refine kops_d rfl rfl (opv_move rfl rfl) ?_
    refine kops_nil ?_
    refine kn_then ?_
    refine kwp_block ?_
    refine kwp_loop1 (inv := [(13, _), (14, _)]) (ic := [])
      (fun (k : Nat) => [(15, .int .i64 k)])
      (fun (k : Nat) => [])
      (fun (k : Nat) => k ≤ fl.length ∧ fl.length = l.length ∧ (∀ i, i < k → -9999999 ≤ gx fl i ∧ gx fl i ≤ 9999999))
      (fun (k : Nat) => fl.length - k)
      ⟨0, ⟨by (exact ⟨by omega, by omega, fun i hi => by omega⟩), by (repeat (first | exact Knows.nil _ | refine Knows.cons2 rfl (by first | rfl | (simp; done) | (congr 1; omega)) ?_)), by (repeat (first | exact Sub.refl _ | exact Sub.nil _ | refine Sub.chunk (by repeat (first | exact Pick.here | apply Pick.there)) (by first | rfl | (simp; done) | (congr 1; omega)) ?_))⟩⟩ (fun k hp => ?_)
    obtain ⟨hk, hfl, hfit⟩ := hp
    refine kwp_seq ?_
    refine kwp_region ?_
    refine kops_d rfl rfl (opv_cmp rfl rfl rfl rfl) ?_
    refine kops_nil ?_
    refine kn_then ?_
    refine kwp_seq ?_
    refine kwp_cond rfl (fun hc4 => ?_) (fun hc4 => ?_)
    ·
      first | have hc4n := kb_nt hc4 | have hc4n := kb_nf hc4 | have hc4n := hc4
      first | have hc4m := of_decide_eq_true hc4n | have hc4m := of_decide_eq_false hc4n | have hc4m := kb_eq hc4n | have hc4m := kb_ne hc4n | have hc4m := kb_bne hc4n | have hc4m := kb_nbne hc4n | have hc4m := isIx_t hc4n | have hc4m := isIx_f hc4n | have hc4m := inR_t hc4n | have hc4m := inR_f hc4n | have hc4m := dec_tt hc4n | have hc4m := dec_ff hc4n | have hc4m := hc4n
      try simp only [List.get_eq_getElem] at hc4n
      try simp only [List.get_eq_getElem] at hc4m
      refine kwp_skip ?_
      refine kn_then ?_
      refine kwp_seq ?_
      refine kwp_block ?_
      refine kwp_seq ?_
      refine kwp_region ?_
      refine kops_d rfl rfl (opv_ia rfl rfl rfl Try.runUnderlying39 Try.sizeOf3 (by repeat (first | exact List.Mem.head _ | apply List.Mem.tail)) (by first | rfl | exact (Int.toNat_of_nonneg (by omega)).symm) (by first | omega | (simp only [List.length_map]; omega) | (rw [fill_len (by omega)]; omega) | (simp; omega) | (simp; done))) ?_
      refine kops_d rfl rfl (opv_load rfl rfl Try.isAgg3 (by repeat (first | exact List.Mem.head _ | apply List.Mem.tail)) (by first | rfl | exact gx_map (by omega) | exact fill_get (by omega) | (simp; done)) rfl) ?_
      refine kops_d rfl rfl (opv_assign rfl rfl) ?_
      refine kops_nil ?_
      refine kn_then ?_
      refine kwp_seq ?_
      refine kwp_region ?_
      refine kops_d rfl rfl (opv_move rfl rfl) ?_
      refine kops_step rfl (opk_call rfl Try.call80 rfl (c_impl_isWithin _ _ ⟨by omega, by omega⟩) ((perm_nil _)) ((Views.nil _)) ?_)
      rintro _ _ ⟨rfl, rfl⟩
      refine kops_d rfl rfl (opv_not rfl rfl) ?_
      refine kops_nil ?_
      refine kn_then ?_
      refine kwp_cond rfl (fun hc7 => ?_) (fun hc7 => ?_)
      ·
        first | have hc7n := kb_nt hc7 | have hc7n := kb_nf hc7 | have hc7n := hc7
        first | have hc7m := of_decide_eq_true hc7n | have hc7m := of_decide_eq_false hc7n | have hc7m := kb_eq hc7n | have hc7m := kb_ne hc7n | have hc7m := kb_bne hc7n | have hc7m := kb_nbne hc7n | have hc7m := isIx_t hc7n | have hc7m := isIx_f hc7n | have hc7m := inR_t hc7n | have hc7m := inR_f hc7n | have hc7m := dec_tt hc7n | have hc7m := dec_ff hc7n | have hc7m := hc7n
        try simp only [List.get_eq_getElem] at hc7n
        try simp only [List.get_eq_getElem] at hc7m
        refine kwp_seq ?_
        refine kwp_region ?_
        refine kops_d rfl rfl (opv_assign rfl rfl) ?_
        refine kops_nil ?_
        refine kn_then ?_
        refine kwp_ret ?_
        refine kr_block ?_
        refine kr_then ?_
        refine kr_then ?_
        refine kr_block ?_
        refine kr_then ?_
        refine kret1 [] rfl rfl ?_ (by (repeat (first | exact Sub.refl _ | exact Sub.nil _ | refine Sub.chunk (by repeat (first | exact Pick.here | apply Pick.there)) (by first | rfl | (simp; done) | (congr 1; omega)) ?_)))
        first | exact ⟨by rw [dec_f (fun h => by have h1 := h.len; omega)], rfl⟩ | exact ⟨by rw [dec_f (fun h => by have h1 := h.fit k (by omega); omega)], rfl⟩ | exact ⟨by rw [dec_t ⟨by omega, fun i hi => hfit i (by omega)⟩], rfl⟩
      ·
        first | have hc7n := kb_nt hc7 | have hc7n := kb_nf hc7 | have hc7n := hc7
        first | have hc7m := of_decide_eq_true hc7n | have hc7m := of_decide_eq_false hc7n | have hc7m := kb_eq hc7n | have hc7m := kb_ne hc7n | have hc7m := kb_bne hc7n | have hc7m := kb_nbne hc7n | have hc7m := isIx_t hc7n | have hc7m := isIx_f hc7n | have hc7m := inR_t hc7n | have hc7m := inR_f hc7n | have hc7m := dec_tt hc7n | have hc7m := dec_ff hc7n | have hc7m := hc7n
        try simp only [List.get_eq_getElem] at hc7n
        try simp only [List.get_eq_getElem] at hc7m
        refine kwp_skip ?_
        refine kn_block ?_
        refine kn_then ?_
        refine kwp_region ?_
        refine kops_d rfl rfl (by first | exact opv_add rfl rfl rfl ⟨by omega, by omega⟩ | exact opv_ari rfl rfl rfl rfl) ?_
        refine kops_d rfl rfl (opv_move rfl rfl) ?_
        refine kops_nil ?_
        refine kn_then ?_
        exact ⟨k + 1, ⟨by (exact ⟨by omega, hfl, upto hfit (by omega)⟩), by (repeat (first | exact Knows.nil _ | refine Knows.cons2 rfl (by first | rfl | (simp; done) | (congr 1; omega)) ?_)), by (repeat (first | exact Sub.refl _ | exact Sub.nil _ | refine Sub.chunk (by repeat (first | exact Pick.here | apply Pick.there)) (by first | rfl | (simp; done) | (congr 1; omega)) ?_))⟩, by omega⟩
    ·
      first | have hc4n := kb_nt hc4 | have hc4n := kb_nf hc4 | have hc4n := hc4
      first | have hc4m := of_decide_eq_true hc4n | have hc4m := of_decide_eq_false hc4n | have hc4m := kb_eq hc4n | have hc4m := kb_ne hc4n | have hc4m := kb_bne hc4n | have hc4m := kb_nbne hc4n | have hc4m := isIx_t hc4n | have hc4m := isIx_f hc4n | have hc4m := inR_t hc4n | have hc4m := inR_f hc4n | have hc4m := dec_tt hc4n | have hc4m := dec_ff hc4n | have hc4m := hc4n
      try simp only [List.get_eq_getElem] at hc4n
      try simp only [List.get_eq_getElem] at hc4m
      refine kwp_exit ?_
      refine ke_then ?_
      refine ke_then ?_
      refine ke_block ?_
      refine kn_then ?_
      refine kwp_seq ?_
      refine kwp_region ?_
      refine kops_d rfl rfl (opv_assign rfl rfl) ?_
      refine kops_nil ?_
      refine kn_then ?_
      refine kwp_ret ?_
      refine kret1 [] rfl rfl ?_ (by (repeat (first | exact Sub.refl _ | exact Sub.nil _ | refine Sub.chunk (by repeat (first | exact Pick.here | apply Pick.there)) (by first | rfl | (simp; done) | (congr 1; omega)) ?_)))
      first | exact ⟨by rw [dec_f (fun h => by have h1 := h.len; omega)], rfl⟩ | exact ⟨by rw [dec_f (fun h => by have h1 := h.fit k (by omega); omega)], rfl⟩ | exact ⟨by rw [dec_t ⟨by omega, fun i hi => hfit i (by omega)⟩], rfl⟩

set_option maxRecDepth 20000 in
theorem c_impl_FlowLoss (p : Int) (a : Option Addr) (n c : Nat) (l : List Airway) (a2 : Option Addr) (n2 c2 : Nat) (fl : List Int) (hb : n ≤ 9223372036854775807 ∧ n2 ≤ 9223372036854775807) :
    Triple Try.prog 30 [.agg #[.int .i64 p, .slice a n c], .slice a2 n2 c2] [⟨.slice a n c, 3, l.map encAirway⟩, ⟨.slice a2 n2 c2, 1, fl.map encI⟩] [] (fun r ch => r = .int .i64 (flowLoss p l fl) ∧ ch = []) := by
  refine triple_start 42 Try.func30 Try.ntmps30 rfl rfl (fun w0 => ?_)
  refine kwp_len (List.Mem.head _) (fun hn => ?_)
  refine kwp_len (List.Mem.tail _ (List.Mem.head _)) (fun hn2 => ?_)
  simp only [List.length_map] at hn hn2
  subst hn hn2
  refine kwp_seq ?_
  refine kwp_region ?_
  refine kops_step rfl (opk_box' (e := [_, _]) 2 rfl rfl rfl rfl (by decide) (fun p2 => ?_))
  refine kops_d rfl rfl (opv_assign rfl rfl) ?_
  refine kops_nil ?_
  refine kn_then ?_
  refine kwp_seq ?_
  refine kwp_seq ?_
  refine kwp_region ?_
  refine kops_d rfl rfl (opv_load_box rfl rfl Try.isAgg35 Try.sizeOf35 (by repeat (first | exact List.Mem.head _ | apply List.Mem.tail))) ?_
  refine kops_step rfl (opk_call rfl Try.call21 rfl (c_impl_MineValid _ _ _ _ _ (by omega)) ((perm_nil _)) (Views.cons (by repeat (first | exact List.Mem.head _ | apply List.Mem.tail)) (View.refl _) ((Views.nil _))) ?_)
  rintro _ _ ⟨rfl, rfl⟩
  refine kops_d rfl rfl (opv_not rfl rfl) ?_
  refine kops_d rfl rfl (opv_move rfl rfl) ?_
  refine kops_split 11 rfl (fun hb3 => ?_) (fun hb3 => ?_)
  ·
    first | have hb3n := kb_nt hb3 | have hb3n := kb_nf hb3 | have hb3n := hb3
    first | have hb3m := of_decide_eq_true hb3n | have hb3m := of_decide_eq_false hb3n | have hb3m := kb_eq hb3n | have hb3m := kb_ne hb3n | have hb3m := kb_bne hb3n | have hb3m := kb_nbne hb3n | have hb3m := isIx_t hb3n | have hb3m := isIx_f hb3n | have hb3m := inR_t hb3n | have hb3m := inR_f hb3n | have hb3m := dec_tt hb3n | have hb3m := dec_ff hb3n | have hb3m := hb3n
    try simp only [List.get_eq_getElem] at hb3n
    try simp only [List.get_eq_getElem] at hb3m
    try (have hX : MineOk _ _ := hb3m; obtain ⟨hp1, hp5, hl7, haw⟩ := hX)
    try (have hX : FlowFits _ _ := hb3m; obtain ⟨hfl, hfit⟩ := hX)
    try (have hX := haw k (by omega); obtain ⟨hf0, hf1, ht0, ht1, hft, hw1, hw6⟩ := hX)
    try have hsq := sq_bd (hfit k (by omega))
    try have hqb := base_bd hw1 hw6
    try have hlb := loss_bd (hfit k (by omega)) hw1 hw6
    try have hbd := lossTo_bd (n := l.length) haw hfit k (by omega)
    refine kops_skip rfl rfl rfl hb3 ?_
    refine kops_skip rfl rfl rfl hb3 ?_
    refine kops_skip rfl rfl rfl hb3 ?_
    refine kops_skip rfl rfl rfl hb3 ?_
    refine kops_d rfl rfl (opv_pick_t rfl rfl rfl hb3) ?_
    refine kops_nil ?_
    refine kn_then ?_
    refine kwp_cond_t rfl rfl ?_
    refine kwp_seq ?_
    refine kwp_region ?_
    refine kops_d rfl rfl (opv_assign rfl rfl) ?_
    refine kops_nil ?_
    refine kn_then ?_
    refine kwp_ret ?_
    refine kr_then ?_
    refine kret1 [] rfl rfl ?_ (by (repeat (first | exact Sub.refl _ | exact Sub.nil _ | refine Sub.chunk (by repeat (first | exact Pick.here | apply Pick.there)) (by first | rfl | (simp; done) | (congr 1; omega)) ?_)))
    first | exact ⟨by rw [flowLoss_f (fun h => by first | exact absurd h.1 (by assumption) | exact absurd h.2 (by assumption))], rfl⟩ | exact ⟨by rw [flowLoss_t ⟨hp1, hp5, hl7, haw⟩ ⟨hfl, hfit⟩, show k = l.length by omega], rfl⟩
  ·
    first | have hb3n := kb_nt hb3 | have hb3n := kb_nf hb3 | have hb3n := hb3
    first | have hb3m := of_decide_eq_true hb3n | have hb3m := of_decide_eq_false hb3n | have hb3m := kb_eq hb3n | have hb3m := kb_ne hb3n | have hb3m := kb_bne hb3n | have hb3m := kb_nbne hb3n | have hb3m := isIx_t hb3n | have hb3m := isIx_f hb3n | have hb3m := inR_t hb3n | have hb3m := inR_f hb3n | have hb3m := dec_tt hb3n | have hb3m := dec_ff hb3n | have hb3m := hb3n
    try simp only [List.get_eq_getElem] at hb3n
    try simp only [List.get_eq_getElem] at hb3m
    try (have hX : MineOk _ _ := hb3m; obtain ⟨hp1, hp5, hl7, haw⟩ := hX)
    try (have hX : FlowFits _ _ := hb3m; obtain ⟨hfl, hfit⟩ := hX)
    try (have hX := haw k (by omega); obtain ⟨hf0, hf1, ht0, ht1, hft, hw1, hw6⟩ := hX)
    try have hsq := sq_bd (hfit k (by omega))
    try have hqb := base_bd hw1 hw6
    try have hlb := loss_bd (hfit k (by omega)) hw1 hw6
    try have hbd := lossTo_bd (n := l.length) haw hfit k (by omega)
    refine kops_gd rfl rfl rfl hb3 rfl (opv_load_box rfl rfl Try.isAgg35 Try.sizeOf35 (by repeat (first | exact List.Mem.head _ | apply List.Mem.tail))) ?_
    refine kops_gd rfl rfl rfl hb3 rfl (opv_move rfl rfl) ?_
    refine kops_gk rfl rfl rfl hb3 (opk_call rfl Try.call66 rfl (c_impl_flowFits _ _ _ _ _ _ _ _ _ ⟨by omega, by omega⟩) ((perm_nil _)) (Views.cons (by repeat (first | exact List.Mem.head _ | apply List.Mem.tail)) (View.refl _) (Views.cons (by repeat (first | exact List.Mem.head _ | apply List.Mem.tail)) (View.refl _) ((Views.nil _)))) ?_)
    rintro _ _ ⟨rfl, rfl⟩
    refine kops_gd rfl rfl rfl hb3 rfl (opv_not rfl rfl) ?_
    refine kops_d rfl rfl (opv_pick_f rfl rfl rfl hb3) ?_
    refine kops_nil ?_
    refine kn_then ?_
    refine kwp_cond rfl (fun hc6 => ?_) (fun hc6 => ?_)
    ·
      first | have hc6n := kb_nt hc6 | have hc6n := kb_nf hc6 | have hc6n := hc6
      first | have hc6m := of_decide_eq_true hc6n | have hc6m := of_decide_eq_false hc6n | have hc6m := kb_eq hc6n | have hc6m := kb_ne hc6n | have hc6m := kb_bne hc6n | have hc6m := kb_nbne hc6n | have hc6m := isIx_t hc6n | have hc6m := isIx_f hc6n | have hc6m := inR_t hc6n | have hc6m := inR_f hc6n | have hc6m := dec_tt hc6n | have hc6m := dec_ff hc6n | have hc6m := hc6n
      try simp only [List.get_eq_getElem] at hc6n
      try simp only [List.get_eq_getElem] at hc6m
      try (have hX : MineOk _ _ := hc6m; obtain ⟨hp1, hp5, hl7, haw⟩ := hX)
      try (have hX : FlowFits _ _ := hc6m; obtain ⟨hfl, hfit⟩ := hX)
      try (have hX := haw k (by omega); obtain ⟨hf0, hf1, ht0, ht1, hft, hw1, hw6⟩ := hX)
      try have hsq := sq_bd (hfit k (by omega))
      try have hqb := base_bd hw1 hw6
      try have hlb := loss_bd (hfit k (by omega)) hw1 hw6
      try have hbd := lossTo_bd (n := l.length) haw hfit k (by omega)
      refine kwp_seq ?_
      refine kwp_region ?_
      refine kops_d rfl rfl (opv_assign rfl rfl) ?_
      refine kops_nil ?_
      refine kn_then ?_
      refine kwp_ret ?_
      refine kr_then ?_
      refine kret1 [] rfl rfl ?_ (by (repeat (first | exact Sub.refl _ | exact Sub.nil _ | refine Sub.chunk (by repeat (first | exact Pick.here | apply Pick.there)) (by first | rfl | (simp; done) | (congr 1; omega)) ?_)))
      first | exact ⟨by rw [flowLoss_f (fun h => by first | exact absurd h.1 (by assumption) | exact absurd h.2 (by assumption))], rfl⟩ | exact ⟨by rw [flowLoss_t ⟨hp1, hp5, hl7, haw⟩ ⟨hfl, hfit⟩, show k = l.length by omega], rfl⟩
    ·
      first | have hc6n := kb_nt hc6 | have hc6n := kb_nf hc6 | have hc6n := hc6
      first | have hc6m := of_decide_eq_true hc6n | have hc6m := of_decide_eq_false hc6n | have hc6m := kb_eq hc6n | have hc6m := kb_ne hc6n | have hc6m := kb_bne hc6n | have hc6m := kb_nbne hc6n | have hc6m := isIx_t hc6n | have hc6m := isIx_f hc6n | have hc6m := inR_t hc6n | have hc6m := inR_f hc6n | have hc6m := dec_tt hc6n | have hc6m := dec_ff hc6n | have hc6m := hc6n
      try simp only [List.get_eq_getElem] at hc6n
      try simp only [List.get_eq_getElem] at hc6m
      try (have hX : MineOk _ _ := hc6m; obtain ⟨hp1, hp5, hl7, haw⟩ := hX)
      try (have hX : FlowFits _ _ := hc6m; obtain ⟨hfl, hfit⟩ := hX)
      try (have hX := haw k (by omega); obtain ⟨hf0, hf1, ht0, ht1, hft, hw1, hw6⟩ := hX)
      try have hsq := sq_bd (hfit k (by omega))
      try have hqb := base_bd hw1 hw6
      try have hlb := loss_bd (hfit k (by omega)) hw1 hw6
      try have hbd := lossTo_bd (n := l.length) haw hfit k (by omega)
      refine kwp_skip ?_
      refine kn_then ?_
      refine kwp_seq ?_
      refine kwp_region ?_
      refine kops_d rfl rfl (opv_assign rfl rfl) ?_
      refine kops_nil ?_
      refine kn_then ?_
      refine kwp_seq ?_
      refine kwp_seq ?_
      refine kwp_region ?_
      refine kops_d rfl rfl (opv_fab rfl rfl fa_35_1 (by repeat (first | exact List.Mem.head _ | apply List.Mem.tail))) ?_
      refine kops_d rfl rfl (opv_load rfl rfl Try.isAgg33 (by repeat (first | exact List.Mem.head _ | apply List.Mem.tail)) (by first | rfl | exact gx_map (by omega) | exact fill_get (by omega) | (simp; done)) rfl) ?_
      refine kops_d rfl rfl (opv_len rfl rfl rfl Try.runUnderlying33) ?_
      refine kops_d rfl rfl (opv_move rfl rfl) ?_
      refine kops_nil ?_
      refine kn_then ?_
      refine kwp_block ?_
      refine kwp_loop1 (inv := [(1, _), (4, _), (18, _), (19, _)]) (ic := [])
        (fun (k : Nat) => [(5, .int .i64 (lossTo l fl k)), (20, .int .i64 k)])
        (fun (k : Nat) => [])
        (fun (k : Nat) => k ≤ l.length)
        (fun (k : Nat) => l.length - k)
        ⟨0, ⟨by first | trivial | omega | (refine ⟨?_, ?_⟩ <;> omega) | (simp; done), by (repeat (first | exact Knows.nil _ | refine Knows.cons2 rfl (by first | rfl | (simp; done) | (congr 1; omega)) ?_)), by (repeat (first | exact Sub.refl _ | exact Sub.nil _ | refine Sub.chunk (by repeat (first | exact Pick.here | apply Pick.there)) (by first | rfl | (simp; done) | (congr 1; omega)) ?_))⟩⟩ (fun k hp => ?_)
      refine kwp_seq ?_
      refine kwp_region ?_
      refine kops_d rfl rfl (opv_cmp rfl rfl rfl rfl) ?_
      refine kops_nil ?_
      refine kn_then ?_
      refine kwp_seq ?_
      refine kwp_cond rfl (fun hc8 => ?_) (fun hc8 => ?_)
      ·
        first | have hc8n := kb_nt hc8 | have hc8n := kb_nf hc8 | have hc8n := hc8
        first | have hc8m := of_decide_eq_true hc8n | have hc8m := of_decide_eq_false hc8n | have hc8m := kb_eq hc8n | have hc8m := kb_ne hc8n | have hc8m := kb_bne hc8n | have hc8m := kb_nbne hc8n | have hc8m := isIx_t hc8n | have hc8m := isIx_f hc8n | have hc8m := inR_t hc8n | have hc8m := inR_f hc8n | have hc8m := dec_tt hc8n | have hc8m := dec_ff hc8n | have hc8m := hc8n
        try simp only [List.get_eq_getElem] at hc8n
        try simp only [List.get_eq_getElem] at hc8m
        try (have hX : MineOk _ _ := hc8m; obtain ⟨hp1, hp5, hl7, haw⟩ := hX)
        try (have hX : FlowFits _ _ := hc8m; obtain ⟨hfl, hfit⟩ := hX)
        try (have hX := haw k (by omega); obtain ⟨hf0, hf1, ht0, ht1, hft, hw1, hw6⟩ := hX)
        try have hsq := sq_bd (hfit k (by omega))
        try have hqb := base_bd hw1 hw6
        try have hlb := loss_bd (hfit k (by omega)) hw1 hw6
        try have hbd := lossTo_bd (n := l.length) haw hfit k (by omega)
        refine kwp_skip ?_
        refine kn_then ?_
        refine kwp_seq ?_
        refine kwp_block ?_
        refine kwp_seq ?_
        refine kwp_region ?_
        refine kops_d rfl rfl (opv_move rfl rfl) ?_
        refine kops_d rfl rfl (opv_ia rfl rfl rfl Try.runUnderlying33 Try.sizeOf77 (by repeat (first | exact List.Mem.head _ | apply List.Mem.tail)) (by first | rfl | exact (Int.toNat_of_nonneg (by omega)).symm) (by first | omega | (simp only [List.length_map]; omega) | (rw [fill_len (by omega)]; omega) | (simp; omega) | (simp; done))) ?_
        refine kops_d rfl rfl (opv_load_agg rfl rfl Try.isAgg77 Try.sizeOf77 (by repeat (first | exact List.Mem.head _ | apply List.Mem.tail)) (by first | rfl | exact gx_map (by omega) | exact fill_get (by omega) | (simp; done))) ?_
        refine kops_step rfl (opk_alloc' (e := [_, _, _]) 3 rfl Try.zeroValue77 rfl rfl (by decide) (fun p7 => ?_))
        refine kops_d rfl rfl (opv_assign rfl rfl) ?_
        refine kops_step rfl (opk_store_box (e' := [_, _, _]) rfl rfl rfl Try.sizeOf77 rfl (by first | exact one_aw | exact one_int | exact one_sill | decide | (simp [Value.oneCell']; done) | (intro x hx; simp at hx; rcases hx with rfl | rfl | rfl | rfl | rfl <;> rfl)) rfl (by repeat (first | exact Upd.here | apply Upd.there)) ?_)
        refine kops_nil ?_
        refine kn_then ?_
        refine kwp_draw [(0, true), (1, true), (2, true), (3, true), (4, true), (5, true), (6, true), (7, true), (8, true), (9, true), (10, true), (11, true), (12, true), (13, true), (14, true), (15, true)] [] _ drawMixed (by kernel_rfl) (fun _ _ _ h => h) (Sub.refl _) ?_
        refine ks_d rfl rfl rfl (opv_move rfl rfl) ?_
        refine ks_d rfl rfl rfl (opv_move rfl rfl) ?_
        refine ks_d rfl rfl rfl (opv_move rfl rfl) ?_
        refine ks_d rfl rfl rfl (opv_ia rfl rfl rfl Try.runUnderlying39 Try.sizeOf3 (by repeat (first | exact List.Mem.head _ | apply List.Mem.tail)) (by first | rfl | exact (Int.toNat_of_nonneg (by omega)).symm) (by first | omega | (simp only [List.length_map]; omega) | (rw [fill_len (by omega)]; omega) | (simp; omega) | (simp; done))) ?_
        refine ks_d rfl rfl rfl (opv_load rfl rfl Try.isAgg3 (by repeat (first | exact List.Mem.head _ | apply List.Mem.tail)) (by first | rfl | exact gx_map (by omega) | exact fill_get (by omega) | (simp; done)) rfl) ?_
        refine ks_d rfl rfl rfl (opv_move rfl rfl) ?_
        refine ks_d rfl rfl rfl (opv_move rfl rfl) ?_
        refine ks_d rfl rfl rfl (opv_ia rfl rfl rfl Try.runUnderlying39 Try.sizeOf3 (by repeat (first | exact List.Mem.head _ | apply List.Mem.tail)) (by first | rfl | exact (Int.toNat_of_nonneg (by omega)).symm) (by first | omega | (simp only [List.length_map]; omega) | (rw [fill_len (by omega)]; omega) | (simp; omega) | (simp; done))) ?_
        refine ks_d rfl rfl rfl (opv_load rfl rfl Try.isAgg3 (by repeat (first | exact List.Mem.head _ | apply List.Mem.tail)) (by first | rfl | exact gx_map (by omega) | exact fill_get (by omega) | (simp; done)) rfl) ?_
        refine ks_d rfl rfl rfl (by first | exact opv_mul rfl rfl rfl ⟨by omega, by omega⟩ | exact opv_ari rfl rfl rfl rfl) ?_
        refine ks_d rfl rfl rfl (opv_fab rfl rfl fa_77_2 (by repeat (first | exact List.Mem.head _ | apply List.Mem.tail))) ?_
        refine ks_d rfl rfl rfl (opv_load rfl rfl Try.isAgg3 (by repeat (first | exact List.Mem.head _ | apply List.Mem.tail)) (by first | rfl | exact gx_map (by omega) | exact fill_get (by omega) | (simp; done)) rfl) ?_
        refine ks_d rfl rfl rfl (by first | exact opv_quo' rfl rfl rfl (by omega) (by omega) (by omega) | exact opv_quo rfl rfl rfl (by omega)) ?_
        refine ks_d rfl rfl rfl (by first | exact opv_mul rfl rfl rfl ⟨by omega, by omega⟩ | exact opv_ari rfl rfl rfl rfl) ?_
        refine ks_d rfl rfl rfl (by first | exact opv_add rfl rfl rfl ⟨by omega, by omega⟩ | exact opv_ari rfl rfl rfl rfl) ?_
        refine ks_d rfl rfl rfl (opv_assign rfl rfl) ?_
        refine ks_nil ?_
        refine kn_block ?_
        refine kn_then ?_
        refine kwp_region ?_
        refine kops_d rfl rfl (by first | exact opv_add rfl rfl rfl ⟨by omega, by omega⟩ | exact opv_ari rfl rfl rfl rfl) ?_
        refine kops_d rfl rfl (opv_move rfl rfl) ?_
        refine kops_nil ?_
        refine kn_then ?_
        exact ⟨k + 1, ⟨by first | trivial | omega | (refine ⟨?_, ?_⟩ <;> omega) | (simp; done), by (repeat (first | exact Knows.nil _ | refine Knows.cons2 rfl (by first | rfl | (simp; done) | (congr 1; omega)) ?_)), by (repeat (first | exact Sub.refl _ | exact Sub.nil _ | refine Sub.chunk (by repeat (first | exact Pick.here | apply Pick.there)) (by first | rfl | (simp; done) | (congr 1; omega)) ?_))⟩, by omega⟩
      ·
        first | have hc8n := kb_nt hc8 | have hc8n := kb_nf hc8 | have hc8n := hc8
        first | have hc8m := of_decide_eq_true hc8n | have hc8m := of_decide_eq_false hc8n | have hc8m := kb_eq hc8n | have hc8m := kb_ne hc8n | have hc8m := kb_bne hc8n | have hc8m := kb_nbne hc8n | have hc8m := isIx_t hc8n | have hc8m := isIx_f hc8n | have hc8m := inR_t hc8n | have hc8m := inR_f hc8n | have hc8m := dec_tt hc8n | have hc8m := dec_ff hc8n | have hc8m := hc8n
        try simp only [List.get_eq_getElem] at hc8n
        try simp only [List.get_eq_getElem] at hc8m
        try (have hX : MineOk _ _ := hc8m; obtain ⟨hp1, hp5, hl7, haw⟩ := hX)
        try (have hX : FlowFits _ _ := hc8m; obtain ⟨hfl, hfit⟩ := hX)
        try (have hX := haw k (by omega); obtain ⟨hf0, hf1, ht0, ht1, hft, hw1, hw6⟩ := hX)
        try have hsq := sq_bd (hfit k (by omega))
        try have hqb := base_bd hw1 hw6
        try have hlb := loss_bd (hfit k (by omega)) hw1 hw6
        try have hbd := lossTo_bd (n := l.length) haw hfit k (by omega)
        refine kwp_exit ?_
        refine ke_then ?_
        refine ke_then ?_
        refine ke_block ?_
        refine kn_then ?_
        refine kwp_seq ?_
        refine kwp_region ?_
        refine kops_d rfl rfl (opv_move rfl rfl) ?_
        refine kops_d rfl rfl (opv_assign rfl rfl) ?_
        refine kops_nil ?_
        refine kn_then ?_
        refine kwp_ret ?_
        refine kret1 [] rfl rfl ?_ (by (repeat (first | exact Sub.refl _ | exact Sub.nil _ | refine Sub.chunk (by repeat (first | exact Pick.here | apply Pick.there)) (by first | rfl | (simp; done) | (congr 1; omega)) ?_)))
        first | exact ⟨by rw [flowLoss_f (fun h => by first | exact absurd h.1 (by assumption) | exact absurd h.2 (by assumption))], rfl⟩ | exact ⟨by rw [flowLoss_t ⟨hp1, hp5, hl7, haw⟩ ⟨hfl, hfit⟩, show k = l.length by omega], rfl⟩

set_option maxRecDepth 20000 in
theorem c_spec_FlowLoss (p : Int) (a : Option Addr) (n c : Nat) (l : List Airway) (a2 : Option Addr) (n2 c2 : Nat) (fl : List Int) (hb : n ≤ 9223372036854775807 ∧ n2 ≤ 9223372036854775807) :
    Triple Try.prog 28 [.agg #[.int .i64 p, .slice a n c], .slice a2 n2 c2] [⟨.slice a n c, 3, l.map encAirway⟩, ⟨.slice a2 n2 c2, 1, fl.map encI⟩] [] (fun r ch => r = .int .i64 (flowLoss p l fl) ∧ ch = []) := by
  refine triple_start 50 Try.func28 Try.ntmps28 rfl rfl (fun w0 => ?_)
  refine kwp_len (List.Mem.head _) (fun hn => ?_)
  refine kwp_len (List.Mem.tail _ (List.Mem.head _)) (fun hn2 => ?_)
  simp only [List.length_map] at hn hn2
  subst hn hn2
  refine kwp_seq ?_
  refine kwp_region ?_
  refine kops_step rfl (opk_box' (e := [_, _]) 2 rfl rfl rfl rfl (by decide) (fun p2 => ?_))
  refine kops_d rfl rfl (opv_assign rfl rfl) ?_
  refine kops_nil ?_
  refine kn_then ?_
  refine kwp_seq ?_
  refine kwp_seq ?_
  refine kwp_region ?_
  refine kops_d rfl rfl (opv_load_box rfl rfl Try.isAgg35 Try.sizeOf35 (by repeat (first | exact List.Mem.head _ | apply List.Mem.tail))) ?_
  refine kops_step rfl (opk_call rfl Try.call19 rfl (c_spec_MineValid _ _ _ _ _ (by omega)) ((perm_nil _)) (Views.cons (by repeat (first | exact List.Mem.head _ | apply List.Mem.tail)) (View.refl _) ((Views.nil _))) ?_)
  rintro _ _ ⟨rfl, rfl⟩
  refine kops_d rfl rfl (opv_not rfl rfl) ?_
  refine kops_d rfl rfl (opv_move rfl rfl) ?_
  refine kops_split 10 rfl (fun hb3 => ?_) (fun hb3 => ?_)
  ·
    first | have hb3n := kb_nt hb3 | have hb3n := kb_nf hb3 | have hb3n := hb3
    first | have hb3m := of_decide_eq_true hb3n | have hb3m := of_decide_eq_false hb3n | have hb3m := kb_eq hb3n | have hb3m := kb_ne hb3n | have hb3m := kb_bne hb3n | have hb3m := kb_nbne hb3n | have hb3m := isIx_t hb3n | have hb3m := isIx_f hb3n | have hb3m := inR_t hb3n | have hb3m := inR_f hb3n | have hb3m := dec_tt hb3n | have hb3m := dec_ff hb3n | have hb3m := hb3n
    try simp only [List.get_eq_getElem] at hb3n
    try simp only [List.get_eq_getElem] at hb3m
    try (have hX : MineOk _ _ := hb3m; obtain ⟨hp1, hp5, hl7, haw⟩ := hX)
    try (have hX := haw k (by omega); obtain ⟨hf0, hf1, ht0, ht1, hft, hw1, hw6⟩ := hX)
    try have hfk : -9999999 ≤ gx fl k ∧ gx fl k ≤ 9999999 := (by omega)
    try have hsq := sq_bd hfk
    try have hqb := base_bd hw1 hw6
    try have hlb := loss_bd hfk hw1 hw6
    try have hbd := lossTo_bd (n := k) (fun i hi => haw i (by omega)) hfit k (by omega)
    refine kops_skip rfl rfl rfl hb3 ?_
    refine kops_skip rfl rfl rfl hb3 ?_
    refine kops_skip rfl rfl rfl hb3 ?_
    refine kops_skip rfl rfl rfl hb3 ?_
    refine kops_skip rfl rfl rfl hb3 ?_
    refine kops_skip rfl rfl rfl hb3 ?_
    refine kops_d rfl rfl (opv_pick_t rfl rfl rfl hb3) ?_
    refine kops_nil ?_
    refine kn_then ?_
    refine kwp_cond_t rfl rfl ?_
    refine kwp_seq ?_
    refine kwp_region ?_
    refine kops_d rfl rfl (opv_assign rfl rfl) ?_
    refine kops_nil ?_
    refine kn_then ?_
    refine kwp_ret ?_
    refine kr_then ?_
    refine kret1 [] rfl rfl ?_ (by (repeat (first | exact Sub.refl _ | exact Sub.nil _ | refine Sub.chunk (by repeat (first | exact Pick.here | apply Pick.there)) (by first | rfl | (simp; done) | (congr 1; omega)) ?_)))
    first | exact ⟨by rw [flowLoss_f (fun h => by first | exact absurd h.1 (by assumption) | (have := h.2.len; omega) | (have := h.2.fit k (by omega); omega))], rfl⟩ | exact ⟨by rw [flowLoss_t ⟨hp1, hp5, hl7, haw⟩ ⟨by omega, fun i hi => hfit i (by omega)⟩, show k = l.length by omega], rfl⟩
  ·
    first | have hb3n := kb_nt hb3 | have hb3n := kb_nf hb3 | have hb3n := hb3
    first | have hb3m := of_decide_eq_true hb3n | have hb3m := of_decide_eq_false hb3n | have hb3m := kb_eq hb3n | have hb3m := kb_ne hb3n | have hb3m := kb_bne hb3n | have hb3m := kb_nbne hb3n | have hb3m := isIx_t hb3n | have hb3m := isIx_f hb3n | have hb3m := inR_t hb3n | have hb3m := inR_f hb3n | have hb3m := dec_tt hb3n | have hb3m := dec_ff hb3n | have hb3m := hb3n
    try simp only [List.get_eq_getElem] at hb3n
    try simp only [List.get_eq_getElem] at hb3m
    try (have hX : MineOk _ _ := hb3m; obtain ⟨hp1, hp5, hl7, haw⟩ := hX)
    try (have hX := haw k (by omega); obtain ⟨hf0, hf1, ht0, ht1, hft, hw1, hw6⟩ := hX)
    try have hfk : -9999999 ≤ gx fl k ∧ gx fl k ≤ 9999999 := (by omega)
    try have hsq := sq_bd hfk
    try have hqb := base_bd hw1 hw6
    try have hlb := loss_bd hfk hw1 hw6
    try have hbd := lossTo_bd (n := k) (fun i hi => haw i (by omega)) hfit k (by omega)
    refine kops_gd rfl rfl rfl hb3 rfl (opv_move rfl rfl) ?_
    refine kops_gd rfl rfl rfl hb3 rfl (opv_len rfl rfl rfl Try.runUnderlying39) ?_
    refine kops_gd rfl rfl rfl hb3 rfl (opv_fab rfl rfl fa_35_1 (by repeat (first | exact List.Mem.head _ | apply List.Mem.tail))) ?_
    refine kops_gd rfl rfl rfl hb3 rfl (opv_load rfl rfl Try.isAgg33 (by repeat (first | exact List.Mem.head _ | apply List.Mem.tail)) (by first | rfl | exact gx_map (by omega) | exact fill_get (by omega) | (simp; done)) rfl) ?_
    refine kops_gd rfl rfl rfl hb3 rfl (opv_len rfl rfl rfl Try.runUnderlying33) ?_
    refine kops_gd rfl rfl rfl hb3 rfl (opv_cmp rfl rfl rfl rfl) ?_
    refine kops_d rfl rfl (opv_pick_f rfl rfl rfl hb3) ?_
    refine kops_nil ?_
    refine kn_then ?_
    refine kwp_cond rfl (fun hc5 => ?_) (fun hc5 => ?_)
    ·
      first | have hc5n := kb_nt hc5 | have hc5n := kb_nf hc5 | have hc5n := hc5
      first | have hc5m := of_decide_eq_true hc5n | have hc5m := of_decide_eq_false hc5n | have hc5m := kb_eq hc5n | have hc5m := kb_ne hc5n | have hc5m := kb_bne hc5n | have hc5m := kb_nbne hc5n | have hc5m := isIx_t hc5n | have hc5m := isIx_f hc5n | have hc5m := inR_t hc5n | have hc5m := inR_f hc5n | have hc5m := dec_tt hc5n | have hc5m := dec_ff hc5n | have hc5m := hc5n
      try simp only [List.get_eq_getElem] at hc5n
      try simp only [List.get_eq_getElem] at hc5m
      try (have hX : MineOk _ _ := hc5m; obtain ⟨hp1, hp5, hl7, haw⟩ := hX)
      try (have hX := haw k (by omega); obtain ⟨hf0, hf1, ht0, ht1, hft, hw1, hw6⟩ := hX)
      try have hfk : -9999999 ≤ gx fl k ∧ gx fl k ≤ 9999999 := (by omega)
      try have hsq := sq_bd hfk
      try have hqb := base_bd hw1 hw6
      try have hlb := loss_bd hfk hw1 hw6
      try have hbd := lossTo_bd (n := k) (fun i hi => haw i (by omega)) hfit k (by omega)
      refine kwp_seq ?_
      refine kwp_region ?_
      refine kops_d rfl rfl (opv_assign rfl rfl) ?_
      refine kops_nil ?_
      refine kn_then ?_
      refine kwp_ret ?_
      refine kr_then ?_
      refine kret1 [] rfl rfl ?_ (by (repeat (first | exact Sub.refl _ | exact Sub.nil _ | refine Sub.chunk (by repeat (first | exact Pick.here | apply Pick.there)) (by first | rfl | (simp; done) | (congr 1; omega)) ?_)))
      first | exact ⟨by rw [flowLoss_f (fun h => by first | exact absurd h.1 (by assumption) | (have := h.2.len; omega) | (have := h.2.fit k (by omega); omega))], rfl⟩ | exact ⟨by rw [flowLoss_t ⟨hp1, hp5, hl7, haw⟩ ⟨by omega, fun i hi => hfit i (by omega)⟩, show k = l.length by omega], rfl⟩
    ·
      first | have hc5n := kb_nt hc5 | have hc5n := kb_nf hc5 | have hc5n := hc5
      first | have hc5m := of_decide_eq_true hc5n | have hc5m := of_decide_eq_false hc5n | have hc5m := kb_eq hc5n | have hc5m := kb_ne hc5n | have hc5m := kb_bne hc5n | have hc5m := kb_nbne hc5n | have hc5m := isIx_t hc5n | have hc5m := isIx_f hc5n | have hc5m := inR_t hc5n | have hc5m := inR_f hc5n | have hc5m := dec_tt hc5n | have hc5m := dec_ff hc5n | have hc5m := hc5n
      try simp only [List.get_eq_getElem] at hc5n
      try simp only [List.get_eq_getElem] at hc5m
      try (have hX : MineOk _ _ := hc5m; obtain ⟨hp1, hp5, hl7, haw⟩ := hX)
      try (have hX := haw k (by omega); obtain ⟨hf0, hf1, ht0, ht1, hft, hw1, hw6⟩ := hX)
      try have hfk : -9999999 ≤ gx fl k ∧ gx fl k ≤ 9999999 := (by omega)
      try have hsq := sq_bd hfk
      try have hqb := base_bd hw1 hw6
      try have hlb := loss_bd hfk hw1 hw6
      try have hbd := lossTo_bd (n := k) (fun i hi => haw i (by omega)) hfit k (by omega)
      refine kwp_skip ?_
      refine kn_then ?_
      refine kwp_seq ?_
      refine kwp_region ?_
      refine kops_d rfl rfl (opv_assign rfl rfl) ?_
      refine kops_nil ?_
      refine kn_then ?_
      refine kwp_seq ?_
      refine kwp_seq ?_
      refine kwp_region ?_
      refine kops_d rfl rfl (opv_assign rfl rfl) ?_
      refine kops_nil ?_
      refine kn_then ?_
      refine kwp_block ?_
      refine kwp_loop1 (inv := [(1, _), (2, _)]) (ic := [⟨.pointer (some p2), _, _⟩])
        (fun (k : Nat) => [(5, .int .i64 (lossTo l fl k)), (6, .int .i64 k)])
        (fun (k : Nat) => [])
        (fun (k : Nat) => k ≤ l.length ∧ (∀ i, i < k → -9999999 ≤ gx fl i ∧ gx fl i ≤ 9999999))
        (fun (k : Nat) => l.length - k)
        ⟨0, ⟨by (exact ⟨by omega, fun i hi => by omega⟩), by (repeat (first | exact Knows.nil _ | refine Knows.cons2 rfl (by first | rfl | (simp; done) | (congr 1; omega)) ?_)), by (repeat (first | exact Sub.refl _ | exact Sub.nil _ | refine Sub.chunk (by repeat (first | exact Pick.here | apply Pick.there)) (by first | rfl | (simp; done) | (congr 1; omega)) ?_))⟩⟩ (fun k hp => ?_)
      obtain ⟨hk, hfit⟩ := hp
      refine kwp_seq ?_
      refine kwp_seq ?_
      refine kwp_region ?_
      refine kops_d rfl rfl (opv_move rfl rfl) ?_
      refine kops_d rfl rfl (opv_move rfl rfl) ?_
      refine kops_d rfl rfl (opv_len rfl rfl rfl Try.runUnderlying39) ?_
      refine kops_d rfl rfl (opv_cmp rfl rfl rfl rfl) ?_
      refine kops_nil ?_
      refine kn_then ?_
      refine kwp_cond rfl (fun hc7 => ?_) (fun hc7 => ?_)
      ·
        first | have hc7n := kb_nt hc7 | have hc7n := kb_nf hc7 | have hc7n := hc7
        first | have hc7m := of_decide_eq_true hc7n | have hc7m := of_decide_eq_false hc7n | have hc7m := kb_eq hc7n | have hc7m := kb_ne hc7n | have hc7m := kb_bne hc7n | have hc7m := kb_nbne hc7n | have hc7m := isIx_t hc7n | have hc7m := isIx_f hc7n | have hc7m := inR_t hc7n | have hc7m := inR_f hc7n | have hc7m := dec_tt hc7n | have hc7m := dec_ff hc7n | have hc7m := hc7n
        try simp only [List.get_eq_getElem] at hc7n
        try simp only [List.get_eq_getElem] at hc7m
        try (have hX : MineOk _ _ := hc7m; obtain ⟨hp1, hp5, hl7, haw⟩ := hX)
        try (have hX := haw k (by omega); obtain ⟨hf0, hf1, ht0, ht1, hft, hw1, hw6⟩ := hX)
        try have hfk : -9999999 ≤ gx fl k ∧ gx fl k ≤ 9999999 := (by omega)
        try have hsq := sq_bd hfk
        try have hqb := base_bd hw1 hw6
        try have hlb := loss_bd hfk hw1 hw6
        try have hbd := lossTo_bd (n := k) (fun i hi => haw i (by omega)) hfit k (by omega)
        refine kwp_skip ?_
        refine kn_then ?_
        refine kwp_seq ?_
        refine kwp_block ?_
        refine kwp_seq ?_
        refine kwp_seq ?_
        refine kwp_region ?_
        refine kops_d rfl rfl (opv_move rfl rfl) ?_
        refine kops_d rfl rfl (opv_move rfl rfl) ?_
        refine kops_d rfl rfl (opv_ia rfl rfl rfl Try.runUnderlying39 Try.sizeOf3 (by repeat (first | exact List.Mem.head _ | apply List.Mem.tail)) (by first | rfl | exact (Int.toNat_of_nonneg (by omega)).symm) (by first | omega | (simp only [List.length_map]; omega) | (rw [fill_len (by omega)]; omega) | (simp; omega) | (simp; done))) ?_
        refine kops_d rfl rfl (opv_load rfl rfl Try.isAgg3 (by repeat (first | exact List.Mem.head _ | apply List.Mem.tail)) (by first | rfl | exact gx_map (by omega) | exact fill_get (by omega) | (simp; done)) rfl) ?_
        refine kops_step rfl (opk_call rfl Try.call56 rfl (c_spec_l1In _ _ _) ((perm_nil _)) ((Views.nil _)) ?_)
        rintro _ _ ⟨rfl, rfl⟩
        refine kops_d rfl rfl (opv_not rfl rfl) ?_
        refine kops_nil ?_
        refine kn_then ?_
        refine kwp_cond rfl (fun hc10 => ?_) (fun hc10 => ?_)
        ·
          first | have hc10n := kb_nt hc10 | have hc10n := kb_nf hc10 | have hc10n := hc10
          first | have hc10m := of_decide_eq_true hc10n | have hc10m := of_decide_eq_false hc10n | have hc10m := kb_eq hc10n | have hc10m := kb_ne hc10n | have hc10m := kb_bne hc10n | have hc10m := kb_nbne hc10n | have hc10m := isIx_t hc10n | have hc10m := isIx_f hc10n | have hc10m := inR_t hc10n | have hc10m := inR_f hc10n | have hc10m := dec_tt hc10n | have hc10m := dec_ff hc10n | have hc10m := hc10n
          try simp only [List.get_eq_getElem] at hc10n
          try simp only [List.get_eq_getElem] at hc10m
          try (have hX : MineOk _ _ := hc10m; obtain ⟨hp1, hp5, hl7, haw⟩ := hX)
          try (have hX := haw k (by omega); obtain ⟨hf0, hf1, ht0, ht1, hft, hw1, hw6⟩ := hX)
          try have hfk : -9999999 ≤ gx fl k ∧ gx fl k ≤ 9999999 := (by omega)
          try have hsq := sq_bd hfk
          try have hqb := base_bd hw1 hw6
          try have hlb := loss_bd hfk hw1 hw6
          try have hbd := lossTo_bd (n := k) (fun i hi => haw i (by omega)) hfit k (by omega)
          refine kwp_seq ?_
          refine kwp_region ?_
          refine kops_d rfl rfl (opv_assign rfl rfl) ?_
          refine kops_nil ?_
          refine kn_then ?_
          refine kwp_ret ?_
          refine kr_then ?_
          refine kr_block ?_
          refine kr_then ?_
          refine kr_then ?_
          refine kr_block ?_
          refine kr_then ?_
          refine kret1 [] rfl rfl ?_ (by (repeat (first | exact Sub.refl _ | exact Sub.nil _ | refine Sub.chunk (by repeat (first | exact Pick.here | apply Pick.there)) (by first | rfl | (simp; done) | (congr 1; omega)) ?_)))
          first | exact ⟨by rw [flowLoss_f (fun h => by first | exact absurd h.1 (by assumption) | (have := h.2.len; omega) | (have := h.2.fit k (by omega); omega))], rfl⟩ | exact ⟨by rw [flowLoss_t ⟨hp1, hp5, hl7, haw⟩ ⟨by omega, fun i hi => hfit i (by omega)⟩, show k = l.length by omega], rfl⟩
        ·
          first | have hc10n := kb_nt hc10 | have hc10n := kb_nf hc10 | have hc10n := hc10
          first | have hc10m := of_decide_eq_true hc10n | have hc10m := of_decide_eq_false hc10n | have hc10m := kb_eq hc10n | have hc10m := kb_ne hc10n | have hc10m := kb_bne hc10n | have hc10m := kb_nbne hc10n | have hc10m := isIx_t hc10n | have hc10m := isIx_f hc10n | have hc10m := inR_t hc10n | have hc10m := inR_f hc10n | have hc10m := dec_tt hc10n | have hc10m := dec_ff hc10n | have hc10m := hc10n
          try simp only [List.get_eq_getElem] at hc10n
          try simp only [List.get_eq_getElem] at hc10m
          try (have hX : MineOk _ _ := hc10m; obtain ⟨hp1, hp5, hl7, haw⟩ := hX)
          try (have hX := haw k (by omega); obtain ⟨hf0, hf1, ht0, ht1, hft, hw1, hw6⟩ := hX)
          try have hfk : -9999999 ≤ gx fl k ∧ gx fl k ≤ 9999999 := (by omega)
          try have hsq := sq_bd hfk
          try have hqb := base_bd hw1 hw6
          try have hlb := loss_bd hfk hw1 hw6
          try have hbd := lossTo_bd (n := k) (fun i hi => haw i (by omega)) hfit k (by omega)
          refine kwp_skip ?_
          refine kn_then ?_
          refine kwp_draw [(0, true), (1, true), (2, true), (3, true), (4, true), (5, true), (6, true), (7, true), (8, true), (9, true), (10, true), (11, true), (12, true), (13, true), (14, true), (15, true), (16, true), (17, true), (18, true), (19, true)] [] _ drawMixed (by kernel_rfl) (fun _ _ _ h => h) (Sub.refl _) ?_
          refine ks_d rfl rfl rfl (opv_move rfl rfl) ?_
          refine ks_d rfl rfl rfl (opv_move rfl rfl) ?_
          refine ks_d rfl rfl rfl (opv_move rfl rfl) ?_
          refine ks_d rfl rfl rfl (opv_ia rfl rfl rfl Try.runUnderlying39 Try.sizeOf3 (by repeat (first | exact List.Mem.head _ | apply List.Mem.tail)) (by first | rfl | exact (Int.toNat_of_nonneg (by omega)).symm) (by first | omega | (simp only [List.length_map]; omega) | (rw [fill_len (by omega)]; omega) | (simp; omega) | (simp; done))) ?_
          refine ks_d rfl rfl rfl (opv_load rfl rfl Try.isAgg3 (by repeat (first | exact List.Mem.head _ | apply List.Mem.tail)) (by first | rfl | exact gx_map (by omega) | exact fill_get (by omega) | (simp; done)) rfl) ?_
          refine ks_d rfl rfl rfl (opv_move rfl rfl) ?_
          refine ks_d rfl rfl rfl (opv_move rfl rfl) ?_
          refine ks_d rfl rfl rfl (opv_ia rfl rfl rfl Try.runUnderlying39 Try.sizeOf3 (by repeat (first | exact List.Mem.head _ | apply List.Mem.tail)) (by first | rfl | exact (Int.toNat_of_nonneg (by omega)).symm) (by first | omega | (simp only [List.length_map]; omega) | (rw [fill_len (by omega)]; omega) | (simp; omega) | (simp; done))) ?_
          refine ks_d rfl rfl rfl (opv_load rfl rfl Try.isAgg3 (by repeat (first | exact List.Mem.head _ | apply List.Mem.tail)) (by first | rfl | exact gx_map (by omega) | exact fill_get (by omega) | (simp; done)) rfl) ?_
          refine ks_d rfl rfl rfl (by first | exact opv_mul rfl rfl rfl ⟨by omega, by omega⟩ | exact opv_ari rfl rfl rfl rfl) ?_
          refine ks_d rfl rfl rfl (opv_fab rfl rfl fa_35_1 (by repeat (first | exact List.Mem.head _ | apply List.Mem.tail))) ?_
          refine ks_d rfl rfl rfl (opv_load rfl rfl Try.isAgg33 (by repeat (first | exact List.Mem.head _ | apply List.Mem.tail)) (by first | rfl | exact gx_map (by omega) | exact fill_get (by omega) | (simp; done)) rfl) ?_
          refine ks_d rfl rfl rfl (opv_move rfl rfl) ?_
          refine ks_d rfl rfl rfl (opv_ia rfl rfl rfl Try.runUnderlying33 Try.sizeOf77 (by repeat (first | exact List.Mem.head _ | apply List.Mem.tail)) (by first | rfl | exact (Int.toNat_of_nonneg (by omega)).symm) (by first | omega | (simp only [List.length_map]; omega) | (rw [fill_len (by omega)]; omega) | (simp; omega) | (simp; done))) ?_
          refine ks_d rfl rfl rfl (opv_fa rfl rfl fa_77_2 (by repeat (first | exact List.Mem.head _ | apply List.Mem.tail)) (by first | omega | (simp only [List.length_map]; omega) | (rw [fill_len (by omega)]; omega) | (simp; omega) | (simp; done))) ?_
          refine ks_d rfl rfl rfl (opv_load rfl rfl Try.isAgg3 (by repeat (first | exact List.Mem.head _ | apply List.Mem.tail)) (by first | rfl | exact gx_map (by omega) | exact fill_get (by omega) | (simp; done)) rfl) ?_
          refine ks_d rfl rfl rfl (by first | exact opv_quo' rfl rfl rfl (by omega) (by omega) (by omega) | exact opv_quo rfl rfl rfl (by omega)) ?_
          refine ks_d rfl rfl rfl (by first | exact opv_mul rfl rfl rfl ⟨by omega, by omega⟩ | exact opv_ari rfl rfl rfl rfl) ?_
          refine ks_d rfl rfl rfl (by first | exact opv_add rfl rfl rfl ⟨by omega, by omega⟩ | exact opv_ari rfl rfl rfl rfl) ?_
          refine ks_d rfl rfl rfl (opv_assign rfl rfl) ?_
          refine ks_nil ?_
          refine kn_block ?_
          refine kn_then ?_
          refine kwp_region ?_
          refine kops_d rfl rfl (opv_move rfl rfl) ?_
          refine kops_d rfl rfl (by first | exact opv_add rfl rfl rfl ⟨by omega, by omega⟩ | exact opv_ari rfl rfl rfl rfl) ?_
          refine kops_d rfl rfl (opv_assign rfl rfl) ?_
          refine kops_nil ?_
          refine kn_then ?_
          exact ⟨k + 1, ⟨by (exact ⟨by omega, upto hfit (by omega)⟩), by (repeat (first | exact Knows.nil _ | refine Knows.cons2 rfl (by first | rfl | (simp; done) | (congr 1; omega)) ?_)), by (repeat (first | exact Sub.refl _ | exact Sub.nil _ | refine Sub.chunk (by repeat (first | exact Pick.here | apply Pick.there)) (by first | rfl | (simp; done) | (congr 1; omega)) ?_))⟩, by omega⟩
      ·
        first | have hc7n := kb_nt hc7 | have hc7n := kb_nf hc7 | have hc7n := hc7
        first | have hc7m := of_decide_eq_true hc7n | have hc7m := of_decide_eq_false hc7n | have hc7m := kb_eq hc7n | have hc7m := kb_ne hc7n | have hc7m := kb_bne hc7n | have hc7m := kb_nbne hc7n | have hc7m := isIx_t hc7n | have hc7m := isIx_f hc7n | have hc7m := inR_t hc7n | have hc7m := inR_f hc7n | have hc7m := dec_tt hc7n | have hc7m := dec_ff hc7n | have hc7m := hc7n
        try simp only [List.get_eq_getElem] at hc7n
        try simp only [List.get_eq_getElem] at hc7m
        try (have hX : MineOk _ _ := hc7m; obtain ⟨hp1, hp5, hl7, haw⟩ := hX)
        try (have hX := haw k (by omega); obtain ⟨hf0, hf1, ht0, ht1, hft, hw1, hw6⟩ := hX)
        try have hfk : -9999999 ≤ gx fl k ∧ gx fl k ≤ 9999999 := (by omega)
        try have hsq := sq_bd hfk
        try have hqb := base_bd hw1 hw6
        try have hlb := loss_bd hfk hw1 hw6
        try have hbd := lossTo_bd (n := k) (fun i hi => haw i (by omega)) hfit k (by omega)
        refine kwp_exit ?_
        refine ke_then ?_
        refine ke_then ?_
        refine ke_block ?_
        refine kn_then ?_
        refine kwp_seq ?_
        refine kwp_region ?_
        refine kops_d rfl rfl (opv_move rfl rfl) ?_
        refine kops_d rfl rfl (opv_assign rfl rfl) ?_
        refine kops_nil ?_
        refine kn_then ?_
        refine kwp_ret ?_
        refine kret1 [] rfl rfl ?_ (by (repeat (first | exact Sub.refl _ | exact Sub.nil _ | refine Sub.chunk (by repeat (first | exact Pick.here | apply Pick.there)) (by first | rfl | (simp; done) | (congr 1; omega)) ?_)))
        first | exact ⟨by rw [flowLoss_f (fun h => by first | exact absurd h.1 (by assumption) | (have := h.2.len; omega) | (have := h.2.fit k (by omega); omega))], rfl⟩ | exact ⟨by rw [flowLoss_t ⟨hp1, hp5, hl7, haw⟩ ⟨by omega, fun i hi => hfit i (by omega)⟩, show k = l.length by omega], rfl⟩

set_option maxRecDepth 20000 in
theorem c_laws_FnExactFlowLoss (p : Int) (a : Option Addr) (n c : Nat) (l : List Airway) (a2 : Option Addr) (n2 c2 : Nat) (fl : List Int) (hb : n ≤ 9223372036854775807 ∧ n2 ≤ 9223372036854775807) (hp : -9223372036854775808 ≤ p ∧ p ≤ 9223372036854775807) :
    Triple Try.prog 6 [.agg #[.int .i64 p, .slice a n c], .slice a2 n2 c2] [⟨.slice a n c, 3, l.map encAirway⟩, ⟨.slice a2 n2 c2, 1, fl.map encI⟩] [] (fun r ch => r = .bool true ∧ ch = []) := by
  refine triple_start 43 Try.func6 Try.ntmps6 rfl rfl (fun w0 => ?_)
  refine kwp_len (List.Mem.head _) (fun hn => ?_)
  refine kwp_len (List.Mem.tail _ (List.Mem.head _)) (fun hn2 => ?_)
  simp only [List.length_map] at hn hn2
  subst hn hn2
  refine kwp_seq ?_
  refine kwp_region ?_
  refine kops_step rfl (opk_box' (e := [_, _]) 2 rfl rfl rfl rfl (by decide) (fun p2 => ?_))
  refine kops_d rfl rfl (opv_assign rfl rfl) ?_
  refine kops_nil ?_
  refine kn_then ?_
  refine kwp_seq ?_
  refine kwp_seq ?_
  refine kwp_region ?_
  refine kops_d rfl rfl (opv_move rfl rfl) ?_
  refine kops_d rfl rfl (opv_len rfl rfl rfl Try.runUnderlying39) ?_
  refine kops_d rfl rfl (opv_cmp rfl rfl rfl rfl) ?_
  refine kops_nil ?_
  refine kn_then ?_
  refine kwp_cond rfl (fun hc2 => ?_) (fun hc2 => ?_)
  ·
    first | have hc2n := kb_nt hc2 | have hc2n := kb_nf hc2 | have hc2n := hc2
    first | have hc2m := of_decide_eq_true hc2n | have hc2m := of_decide_eq_false hc2n | have hc2m := kb_eq hc2n | have hc2m := kb_ne hc2n | have hc2m := kb_bne hc2n | have hc2m := kb_nbne hc2n | have hc2m := isIx_t hc2n | have hc2m := isIx_f hc2n | have hc2m := inR_t hc2n | have hc2m := inR_f hc2n | have hc2m := dec_tt hc2n | have hc2m := dec_ff hc2n | have hc2m := hc2n
    try simp only [List.get_eq_getElem] at hc2n
    try simp only [List.get_eq_getElem] at hc2m
    try (exfalso; simp_all; done; done)
    all_goals
      refine kwp_seq ?_
      refine kwp_region ?_
      refine kops_d rfl rfl (opv_assign rfl rfl) ?_
      refine kops_nil ?_
      refine kn_then ?_
      refine kwp_ret ?_
      refine kr_then ?_
      refine kret1 [] rfl rfl ?_ (by (repeat (first | exact Sub.refl _ | exact Sub.nil _ | refine Sub.chunk (by repeat (first | exact Pick.here | apply Pick.there)) (by first | rfl | (simp; done) | (congr 1; omega)) ?_)))
      exact ⟨rfl, rfl⟩
  ·
    first | have hc2n := kb_nt hc2 | have hc2n := kb_nf hc2 | have hc2n := hc2
    first | have hc2m := of_decide_eq_true hc2n | have hc2m := of_decide_eq_false hc2n | have hc2m := kb_eq hc2n | have hc2m := kb_ne hc2n | have hc2m := kb_bne hc2n | have hc2m := kb_nbne hc2n | have hc2m := isIx_t hc2n | have hc2m := isIx_f hc2n | have hc2m := inR_t hc2n | have hc2m := inR_f hc2n | have hc2m := dec_tt hc2n | have hc2m := dec_ff hc2n | have hc2m := hc2n
    try simp only [List.get_eq_getElem] at hc2n
    try simp only [List.get_eq_getElem] at hc2m
    try (exfalso; simp_all; done; done)
    all_goals
      refine kwp_skip ?_
      refine kn_then ?_
      refine kwp_seq ?_
      refine kwp_region ?_
      refine kops_d rfl rfl (opv_assign rfl rfl) ?_
      refine kops_nil ?_
      refine kn_then ?_
      refine kwp_seq ?_
      refine kwp_region ?_
      refine kops_d rfl rfl (opv_load_box rfl rfl Try.isAgg30 Try.sizeOf30 (by repeat (first | exact List.Mem.head _ | apply List.Mem.tail))) ?_
      refine kops_d rfl rfl (opv_move rfl rfl) ?_
      refine kops_step rfl (opk_call rfl Try.call18 rfl (c_laws_szMine _ _ _ _ _ ⟨by omega, by omega⟩ (by omega)) ((perm_nil _)) ((Views.nil _)) ?_)
      rintro _ _ ⟨x15, rfl, hl15, hg15, hx15, rfl⟩
      refine kops_d rfl rfl (opv_assign rfl rfl) ?_
      refine kops_nil ?_
      refine kn_then ?_
      refine kwp_seq ?_
      refine kwp_seq ?_
      refine kwp_region ?_
      refine kops_d rfl rfl (opv_move rfl rfl) ?_
      refine kops_d rfl rfl (opv_cmp rfl rfl rfl rfl) ?_
      refine kops_nil ?_
      refine kn_then ?_
      refine kwp_cond rfl (fun hc4 => ?_) (fun hc4 => ?_)
      ·
        first | have hc4n := kb_nt hc4 | have hc4n := kb_nf hc4 | have hc4n := hc4
        first | have hc4m := of_decide_eq_true hc4n | have hc4m := of_decide_eq_false hc4n | have hc4m := kb_eq hc4n | have hc4m := kb_ne hc4n | have hc4m := kb_bne hc4n | have hc4m := kb_nbne hc4n | have hc4m := isIx_t hc4n | have hc4m := isIx_f hc4n | have hc4m := inR_t hc4n | have hc4m := inR_f hc4n | have hc4m := dec_tt hc4n | have hc4m := dec_ff hc4n | have hc4m := hc4n
        try simp only [List.get_eq_getElem] at hc4n
        try simp only [List.get_eq_getElem] at hc4m
        try (exfalso; simp_all; done; done)
        all_goals
          refine kwp_seq ?_
          refine kwp_region ?_
          refine kops_d rfl rfl (opv_assign rfl rfl) ?_
          refine kops_nil ?_
          refine kn_then ?_
          refine kwp_ret ?_
          refine kr_then ?_
          refine kret1 [] rfl rfl ?_ (by (repeat (first | exact Sub.refl _ | exact Sub.nil _ | refine Sub.chunk (by repeat (first | exact Pick.here | apply Pick.there)) (by first | rfl | (simp; done) | (congr 1; omega)) ?_)))
          exact ⟨rfl, rfl⟩
      ·
        first | have hc4n := kb_nt hc4 | have hc4n := kb_nf hc4 | have hc4n := hc4
        first | have hc4m := of_decide_eq_true hc4n | have hc4m := of_decide_eq_false hc4n | have hc4m := kb_eq hc4n | have hc4m := kb_ne hc4n | have hc4m := kb_bne hc4n | have hc4m := kb_nbne hc4n | have hc4m := isIx_t hc4n | have hc4m := isIx_f hc4n | have hc4m := inR_t hc4n | have hc4m := inR_f hc4n | have hc4m := dec_tt hc4n | have hc4m := dec_ff hc4n | have hc4m := hc4n
        try simp only [List.get_eq_getElem] at hc4n
        try simp only [List.get_eq_getElem] at hc4m
        try (exfalso; simp_all; done; done)
        all_goals
          refine kwp_skip ?_
          refine kn_then ?_
          refine kwp_seq ?_
          refine kwp_region ?_
          refine kops_d rfl rfl (opv_load_box rfl rfl Try.isAgg30 Try.sizeOf30 (by repeat (first | exact List.Mem.head _ | apply List.Mem.tail))) ?_
          refine kops_step rfl (opk_call rfl Try.call20 rfl (c_laws_toMine _ _ _ _ _ (by omega)) ((perm_nil _)) (Views.cons (by repeat (first | exact List.Mem.head _ | apply List.Mem.tail)) (View.refl _) ((Views.nil _))) ?_)
          rintro _ _ ⟨a19, c19, rfl, rfl⟩
          refine kops_d rfl rfl (opv_move rfl rfl) ?_
          refine kops_step rfl (opk_call rfl Try.call29 rfl (c_laws_toIntS _ _ _ _ (by omega)) ((perm_nil _)) (Views.cons (by repeat (first | exact List.Mem.head _ | apply List.Mem.tail)) (View.refl _) ((Views.nil _))) ?_)
          rintro _ _ ⟨a21, c21, rfl, rfl⟩
          refine kops_step rfl (opk_call rfl Try.call28 rfl (c_spec_FlowLoss _ _ _ _ _ _ _ _ _ ⟨by omega, by omega⟩) ((perm_nil _)) (Views.cons (by repeat (first | exact List.Mem.head _ | apply List.Mem.tail)) (View.refl _) (Views.cons (by repeat (first | exact List.Mem.head _ | apply List.Mem.tail)) (View.refl _) ((Views.nil _)))) ?_)
          rintro _ _ ⟨rfl, rfl⟩
          refine kops_d rfl rfl (opv_assign rfl rfl) ?_
          refine kops_nil ?_
          refine kn_then ?_
          refine kwp_seq ?_
          refine kwp_region ?_
          refine kops_d rfl rfl (opv_load_box rfl rfl Try.isAgg30 Try.sizeOf30 (by repeat (first | exact List.Mem.head _ | apply List.Mem.tail))) ?_
          refine kops_step rfl (opk_call rfl Try.call20 rfl (c_laws_toMine _ _ _ _ _ (by omega)) ((perm_nil _)) (Views.cons (by repeat (first | exact List.Mem.head _ | apply List.Mem.tail)) (View.refl _) ((Views.nil _))) ?_)
          rintro _ _ ⟨a24, c24, rfl, rfl⟩
          refine kops_step rfl (opk_alloc' (e := [_, _]) 2 rfl Try.zeroValue35 rfl rfl (by decide) (fun p7 => ?_))
          refine kops_step rfl (opk_store_box (e' := [_, _]) rfl rfl rfl Try.sizeOf35 rfl (by first | exact one_aw | exact one_int | exact one_sill | decide | (simp [Value.oneCell']; done) | (intro x hx; simp at hx; rcases hx with rfl | rfl | rfl | rfl | rfl <;> rfl)) rfl (by repeat (first | exact Upd.here | apply Upd.there)) ?_)
          refine kops_nil ?_
          refine kn_then ?_
          refine kwp_seq ?_
          refine kwp_region ?_
          refine kops_d rfl rfl (opv_move rfl rfl) ?_
          refine kops_step rfl (opk_call rfl Try.call29 rfl (c_laws_toIntS _ _ _ _ (by omega)) ((perm_nil _)) (Views.cons (by repeat (first | exact List.Mem.head _ | apply List.Mem.tail)) (View.refl _) ((Views.nil _))) ?_)
          rintro _ _ ⟨a26, c26, rfl, rfl⟩
          refine kops_d rfl rfl (opv_assign rfl rfl) ?_
          refine kops_nil ?_
          refine kn_then ?_
          refine kwp_seq ?_
          refine kwp_region ?_
          refine kops_d rfl rfl (opv_load_box rfl rfl Try.isAgg35 Try.sizeOf35 (by repeat (first | exact List.Mem.head _ | apply List.Mem.tail))) ?_
          refine kops_d rfl rfl (opv_move rfl rfl) ?_
          refine kops_step rfl (opk_call rfl Try.call30 rfl (c_impl_FlowLoss _ _ _ _ _ _ _ _ _ ⟨by omega, by omega⟩) ((perm_nil _)) (Views.cons (by repeat (first | exact List.Mem.head _ | apply List.Mem.tail)) (View.refl _) (Views.cons (by repeat (first | exact List.Mem.head _ | apply List.Mem.tail)) (View.refl _) ((Views.nil _)))) ?_)
          rintro _ _ ⟨rfl, rfl⟩
          refine kops_d rfl rfl (opv_assign rfl rfl) ?_
          refine kops_nil ?_
          refine kn_then ?_
          refine kwp_seq ?_
          refine kwp_seq ?_
          refine kwp_region ?_
          refine kops_d rfl rfl (opv_move rfl rfl) ?_
          refine kops_d rfl rfl (opv_move rfl rfl) ?_
          refine kops_d rfl rfl (opv_cmp rfl rfl rfl rfl) ?_
          refine kops_nil ?_
          refine kn_then ?_
          refine kwp_cond rfl (fun hc6 => ?_) (fun hc6 => ?_)
          ·
            first | have hc6n := kb_nt hc6 | have hc6n := kb_nf hc6 | have hc6n := hc6
            first | have hc6m := of_decide_eq_true hc6n | have hc6m := of_decide_eq_false hc6n | have hc6m := kb_eq hc6n | have hc6m := kb_ne hc6n | have hc6m := kb_bne hc6n | have hc6m := kb_nbne hc6n | have hc6m := isIx_t hc6n | have hc6m := isIx_f hc6n | have hc6m := inR_t hc6n | have hc6m := inR_f hc6n | have hc6m := dec_tt hc6n | have hc6m := dec_ff hc6n | have hc6m := hc6n
            try simp only [List.get_eq_getElem] at hc6n
            try simp only [List.get_eq_getElem] at hc6m
            try (exfalso; simp_all; done; done)
            all_goals
              refine kwp_seq ?_
              refine kwp_region ?_
              refine kops_d rfl rfl (opv_assign rfl rfl) ?_
              refine kops_nil ?_
              refine kn_then ?_
              refine kwp_ret ?_
              refine kr_then ?_
              refine kret1 [] rfl rfl ?_ (by (repeat (first | exact Sub.refl _ | exact Sub.nil _ | refine Sub.chunk (by repeat (first | exact Pick.here | apply Pick.there)) (by first | rfl | (simp; done) | (congr 1; omega)) ?_)))
              exact ⟨rfl, rfl⟩
          ·
            first | have hc6n := kb_nt hc6 | have hc6n := kb_nf hc6 | have hc6n := hc6
            first | have hc6m := of_decide_eq_true hc6n | have hc6m := of_decide_eq_false hc6n | have hc6m := kb_eq hc6n | have hc6m := kb_ne hc6n | have hc6m := kb_bne hc6n | have hc6m := kb_nbne hc6n | have hc6m := isIx_t hc6n | have hc6m := isIx_f hc6n | have hc6m := inR_t hc6n | have hc6m := inR_f hc6n | have hc6m := dec_tt hc6n | have hc6m := dec_ff hc6n | have hc6m := hc6n
            try simp only [List.get_eq_getElem] at hc6n
            try simp only [List.get_eq_getElem] at hc6m
            try (exfalso; simp_all; done; done)
            all_goals
              refine kwp_skip ?_
              refine kn_then ?_
              refine kwp_seq ?_
              refine kwp_seq ?_
              refine kwp_draw [(0, true), (1, true), (2, false), (3, false), (4, true)] [] _ drawMixed (by kernel_rfl) (fun _ _ _ h => h) (Sub.refl _) ?_
              refine ks_d rfl rfl rfl (opv_load_box rfl rfl Try.isAgg35 Try.sizeOf35 (by repeat (first | exact List.Mem.head _ | apply List.Mem.tail))) ?_
              refine ks_d rfl rfl rfl (opv_load_box rfl rfl Try.isAgg30 Try.sizeOf30 (by repeat (first | exact List.Mem.head _ | apply List.Mem.tail))) ?_
              refine ks_k rfl rfl (opk_call rfl Try.call20 rfl (c_laws_toMine _ _ _ _ _ (by omega)) ((perm_nil _)) (Views.cons (by repeat (first | exact List.Mem.head _ | apply List.Mem.tail)) (View.refl _) ((Views.nil _))) ?_)
              rintro _ _ ⟨a35, c35, rfl, rfl⟩
              refine ⟨.inl (by (repeat (first | exact Sub.refl _ | exact Sub.nil _ | refine Sub.chunk (by repeat (first | exact Pick.here | apply Pick.there)) (by first | rfl | (simp; done) | (congr 1; omega)) ?_))), ?_⟩
              refine ks_k rfl rfl (opk_call rfl Try.call22 rfl (c_laws_eqMine _ _ _ _ _ _ _ _ _ _ ⟨by omega, by omega⟩) ((perm_nil _)) (Views.cons (by repeat (first | exact List.Mem.head _ | apply List.Mem.tail)) (View.refl _) (Views.cons (by repeat (first | exact List.Mem.head _ | apply List.Mem.tail)) (View.refl _) ((Views.nil _)))) ?_)
              rintro _ _ ⟨rfl, rfl⟩
              refine ⟨.inl (by (repeat (first | exact Sub.refl _ | exact Sub.nil _ | refine Sub.chunk (by repeat (first | exact Pick.here | apply Pick.there)) (by first | rfl | (simp; done) | (congr 1; omega)) ?_))), ?_⟩
              refine ks_d rfl rfl rfl (opv_not rfl rfl) ?_
              refine ks_nil ?_
              refine kn_then ?_
              refine kwp_cond rfl (fun hc9 => ?_) (fun hc9 => ?_)
              ·
                first | have hc9n := kb_nt hc9 | have hc9n := kb_nf hc9 | have hc9n := hc9
                first | have hc9m := of_decide_eq_true hc9n | have hc9m := of_decide_eq_false hc9n | have hc9m := kb_eq hc9n | have hc9m := kb_ne hc9n | have hc9m := kb_bne hc9n | have hc9m := kb_nbne hc9n | have hc9m := isIx_t hc9n | have hc9m := isIx_f hc9n | have hc9m := inR_t hc9n | have hc9m := inR_f hc9n | have hc9m := dec_tt hc9n | have hc9m := dec_ff hc9n | have hc9m := hc9n
                try simp only [List.get_eq_getElem] at hc9n
                try simp only [List.get_eq_getElem] at hc9m
                try (exfalso; simp_all; done; done)
                all_goals
                  refine kwp_seq ?_
                  refine kwp_region ?_
                  refine kops_d rfl rfl (opv_assign rfl rfl) ?_
                  refine kops_nil ?_
                  refine kn_then ?_
                  refine kwp_ret ?_
                  refine kr_then ?_
                  refine kret1 [] rfl rfl ?_ (by (repeat (first | exact Sub.refl _ | exact Sub.nil _ | refine Sub.chunk (by repeat (first | exact Pick.here | apply Pick.there)) (by first | rfl | (simp; done) | (congr 1; omega)) ?_)))
                  exact ⟨rfl, rfl⟩
              ·
                first | have hc9n := kb_nt hc9 | have hc9n := kb_nf hc9 | have hc9n := hc9
                first | have hc9m := of_decide_eq_true hc9n | have hc9m := of_decide_eq_false hc9n | have hc9m := kb_eq hc9n | have hc9m := kb_ne hc9n | have hc9m := kb_bne hc9n | have hc9m := kb_nbne hc9n | have hc9m := isIx_t hc9n | have hc9m := isIx_f hc9n | have hc9m := inR_t hc9n | have hc9m := inR_f hc9n | have hc9m := dec_tt hc9n | have hc9m := dec_ff hc9n | have hc9m := hc9n
                try simp only [List.get_eq_getElem] at hc9n
                try simp only [List.get_eq_getElem] at hc9m
                try (exfalso; simp_all; done; done)
                all_goals
                  refine kwp_skip ?_
                  refine kn_then ?_
                  refine kwp_seq ?_
                  refine kwp_seq ?_
                  refine kwp_region ?_
                  refine kops_d rfl rfl (opv_move rfl rfl) ?_
                  refine kops_d rfl rfl (opv_move rfl rfl) ?_
                  refine kops_step rfl (opk_call rfl Try.call29 rfl (c_laws_toIntS _ _ _ _ (by omega)) ((perm_nil _)) (Views.cons (by repeat (first | exact List.Mem.head _ | apply List.Mem.tail)) (View.refl _) ((Views.nil _))) ?_)
                  rintro _ _ ⟨a40, c40, rfl, rfl⟩
                  refine kops_step rfl (opk_call rfl Try.call31 rfl (c_laws_eqIntS _ _ _ _ _ _ _ _ ⟨by omega, by omega⟩) ((perm_nil _)) (Views.cons (by repeat (first | exact List.Mem.head _ | apply List.Mem.tail)) (View.refl _) (Views.cons (by repeat (first | exact List.Mem.head _ | apply List.Mem.tail)) (View.refl _) ((Views.nil _)))) ?_)
                  rintro _ _ ⟨rfl, rfl⟩
                  refine kops_d rfl rfl (opv_not rfl rfl) ?_
                  refine kops_nil ?_
                  refine kn_then ?_
                  refine kwp_cond rfl (fun hc12 => ?_) (fun hc12 => ?_)
                  ·
                    first | have hc12n := kb_nt hc12 | have hc12n := kb_nf hc12 | have hc12n := hc12
                    first | have hc12m := of_decide_eq_true hc12n | have hc12m := of_decide_eq_false hc12n | have hc12m := kb_eq hc12n | have hc12m := kb_ne hc12n | have hc12m := kb_bne hc12n | have hc12m := kb_nbne hc12n | have hc12m := isIx_t hc12n | have hc12m := isIx_f hc12n | have hc12m := inR_t hc12n | have hc12m := inR_f hc12n | have hc12m := dec_tt hc12n | have hc12m := dec_ff hc12n | have hc12m := hc12n
                    try simp only [List.get_eq_getElem] at hc12n
                    try simp only [List.get_eq_getElem] at hc12m
                    try (exfalso; simp_all; done; done)
                    all_goals
                      refine kwp_seq ?_
                      refine kwp_region ?_
                      refine kops_d rfl rfl (opv_assign rfl rfl) ?_
                      refine kops_nil ?_
                      refine kn_then ?_
                      refine kwp_ret ?_
                      refine kr_then ?_
                      refine kret1 [] rfl rfl ?_ (by (repeat (first | exact Sub.refl _ | exact Sub.nil _ | refine Sub.chunk (by repeat (first | exact Pick.here | apply Pick.there)) (by first | rfl | (simp; done) | (congr 1; omega)) ?_)))
                      exact ⟨rfl, rfl⟩
                  ·
                    first | have hc12n := kb_nt hc12 | have hc12n := kb_nf hc12 | have hc12n := hc12
                    first | have hc12m := of_decide_eq_true hc12n | have hc12m := of_decide_eq_false hc12n | have hc12m := kb_eq hc12n | have hc12m := kb_ne hc12n | have hc12m := kb_bne hc12n | have hc12m := kb_nbne hc12n | have hc12m := isIx_t hc12n | have hc12m := isIx_f hc12n | have hc12m := inR_t hc12n | have hc12m := inR_f hc12n | have hc12m := dec_tt hc12n | have hc12m := dec_ff hc12n | have hc12m := hc12n
                    try simp only [List.get_eq_getElem] at hc12n
                    try simp only [List.get_eq_getElem] at hc12m
                    try (exfalso; simp_all; done; done)
                    all_goals
                      refine kwp_skip ?_
                      refine kn_then ?_
                      refine kwp_seq ?_
                      refine kwp_region ?_
                      refine kops_d rfl rfl (opv_assign rfl rfl) ?_
                      refine kops_nil ?_
                      refine kn_then ?_
                      refine kwp_ret ?_
                      refine kret1 [] rfl rfl ?_ (by (repeat (first | exact Sub.refl _ | exact Sub.nil _ | refine Sub.chunk (by repeat (first | exact Pick.here | apply Pick.there)) (by first | rfl | (simp; done) | (congr 1; omega)) ?_)))
                      exact ⟨rfl, rfl⟩

end Go.Proofs.Ytfgialdcilldiaa
