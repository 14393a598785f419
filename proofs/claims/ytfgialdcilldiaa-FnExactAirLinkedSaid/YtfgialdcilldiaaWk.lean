/- The walks of some functions, each by its contract; conditions: those that each contract names. -/
import Derived.Test.YtfgialdcilldiaaWj
namespace Go.Proofs.Ytfgialdcilldiaa
open Go
set_option linter.unusedVariables false
set_option linter.unusedSimpArgs false


set_option maxRecDepth 20000 in
theorem c_impl_FlowOk (p : Int) (a : Option Addr) (n c : Nat) (l : List Airway) (i o amt : Int) (a2 : Option Addr) (n2 c2 : Nat) (fl : List Int) (hb : n ≤ 9223372036854775807 ∧ n2 ≤ 9223372036854775807) (ha : -9223372036854775808 ≤ amt ∧ amt ≤ 9223372036854775807) :
    Triple Try.prog 39 [.agg #[.int .i64 p, .slice a n c], .int .i64 i, .int .i64 o, .int .i64 amt, .slice a2 n2 c2] [⟨.slice a n c, 3, l.map encAirway⟩, ⟨.slice a2 n2 c2, 1, fl.map encI⟩] [] (fun r ch => r = .bool (dec (FlowOkP p l i o amt fl)) ∧ ch = []) := by
  refine triple_start 104 Try.func39 Try.ntmps39 rfl rfl (fun w0 => ?_)
  refine kwp_len (List.Mem.head _) (fun hn => ?_)
  refine kwp_len (List.Mem.tail _ (List.Mem.head _)) (fun hn2 => ?_)
  simp only [List.length_map] at hn hn2
  subst hn hn2
  refine kwp_seq ?_
  refine kwp_region ?_
  refine kops_step rfl (opk_box' (e := [_, _]) 2 rfl rfl rfl rfl (by decide) (fun p5 => ?_))
  refine kops_d rfl rfl (opv_assign rfl rfl) ?_
  refine kops_nil ?_
  refine kn_then ?_
  refine kwp_seq ?_
  refine kwp_seq ?_
  refine kwp_region ?_
  refine kops_d rfl rfl (opv_load_box rfl rfl Try.isAgg35 Try.sizeOf35 (by repeat (first | exact List.Mem.head _ | apply List.Mem.tail))) ?_
  refine kops_step rfl (opk_call rfl Try.call21 rfl (c_impl_MineValid _ _ _ _ _ (by omega)) ((perm_nil _)) (Views.cons (by repeat (first | exact List.Mem.head _ | apply List.Mem.tail)) (View.refl _) ((Views.nil _))) ?_)
  rintro _ _ ⟨rfl, rfl⟩
  refine kops_d rfl rfl (opv_not rfl rfl) ?_
  refine kops_d rfl rfl (opv_move rfl rfl) ?_
  refine kops_split 20 rfl (fun hb3 => ?_) (fun hb3 => ?_)
  ·
    first | have hb3n := kb_nt hb3 | have hb3n := kb_nf hb3 | have hb3n := hb3
    first | have hb3m := of_decide_eq_true hb3n | have hb3m := of_decide_eq_false hb3n | have hb3m := kb_eq hb3n | have hb3m := kb_ne hb3n | have hb3m := kb_bne hb3n | have hb3m := kb_nbne hb3n | have hb3m := isIx_t hb3n | have hb3m := isIx_f hb3n | have hb3m := inR_t hb3n | have hb3m := inR_f hb3n | have hb3m := dec_tt hb3n | have hb3m := dec_ff hb3n | have hb3m := hb3n
    try simp only [List.get_eq_getElem] at hb3n
    try simp only [List.get_eq_getElem] at hb3m
    try (have hX : MineOk _ _ := hb3m; obtain ⟨hp1, hp5, hl7, haw⟩ := hX)
    try (have hX : FlowFits _ _ := hb3m; obtain ⟨hfl, hfit⟩ := hX)
    try (have hX := haw k (by omega); obtain ⟨hf0, hf1, ht0, ht1, hft, hw1, hw6⟩ := hX)
    try have hfk := hfit k (by omega)
    try have hb1 := flowOut_bd (m := l.length) hp1 haw hfit k (by omega) (gx l k).f.toNat (by omega)
    try have hb2 := flowMid_bd (m := l.length) hp1 haw hfit k (by omega) (gx l k).t.toNat (by omega)
    try have hbj := flowOut_bd (m := l.length) hp1 haw hfit l.length (by omega) j (by omega)
    try have hnw := neg_wrap ha
    refine kops_skip rfl rfl rfl hb3 ?_
    refine kops_skip rfl rfl rfl hb3 ?_
    refine kops_skip rfl rfl rfl hb3 ?_
    refine kops_skip rfl rfl rfl hb3 ?_
    refine kops_skip rfl rfl rfl hb3 ?_
    refine kops_d rfl rfl (opv_pick_t rfl rfl rfl hb3) ?_
    refine kops_d rfl rfl (opv_move rfl rfl) ?_
    refine kops_skip rfl rfl rfl rfl ?_
    refine kops_skip rfl rfl rfl rfl ?_
    refine kops_skip rfl rfl rfl rfl ?_
    refine kops_skip rfl rfl rfl rfl ?_
    refine kops_skip rfl rfl rfl rfl ?_
    refine kops_d rfl rfl (opv_pick_t rfl rfl rfl rfl) ?_
    refine kops_d rfl rfl (opv_move rfl rfl) ?_
    refine kops_skip rfl rfl rfl rfl ?_
    refine kops_skip rfl rfl rfl rfl ?_
    refine kops_skip rfl rfl rfl rfl ?_
    refine kops_skip rfl rfl rfl rfl ?_
    refine kops_d rfl rfl (opv_pick_t rfl rfl rfl rfl) ?_
    refine kops_nil ?_
    refine kn_then ?_
    refine kwp_cond_t rfl rfl ?_
    refine kwp_seq ?_
    refine kwp_region ?_
    refine kops_d rfl rfl (opv_assign rfl rfl) ?_
    refine kops_nil ?_
    refine kn_then ?_
    refine kwp_ret ?_
    refine kr_then ?_
    refine kret1 [] rfl rfl ?_ (by (repeat (first | exact Sub.refl _ | exact Sub.nil _ | refine Sub.chunk (by repeat (first | exact Pick.here | apply Pick.there)) (by first | rfl | (simp; done) | (congr 1; omega)) ?_)))
    first | exact ⟨vf (fun h => by first | exact absurd h.ok (by assumption) | exact absurd h.fit (by assumption) | (have h2 := h.i0; have h3 := h.i1; have h4 := h.o0; have h5 := h.o1; have h6 := h.fit.len; omega) | (have h6 := h.fit.fit k (by omega); omega)), rfl⟩ | exact ⟨vt ⟨⟨hp1, hp5, hl7, haw⟩, by omega, by omega, by omega, by omega, ⟨hfl, hfit⟩, fun v hv => hall v (by omega)⟩, rfl⟩ | exact ⟨vf (fun h => by have hw := h.all j (by omega); simp only [want] at hw; (repeat' split at hw) <;> omega), rfl⟩ 
  ·
    first | have hb3n := kb_nt hb3 | have hb3n := kb_nf hb3 | have hb3n := hb3
    first | have hb3m := of_decide_eq_true hb3n | have hb3m := of_decide_eq_false hb3n | have hb3m := kb_eq hb3n | have hb3m := kb_ne hb3n | have hb3m := kb_bne hb3n | have hb3m := kb_nbne hb3n | have hb3m := isIx_t hb3n | have hb3m := isIx_f hb3n | have hb3m := inR_t hb3n | have hb3m := inR_f hb3n | have hb3m := dec_tt hb3n | have hb3m := dec_ff hb3n | have hb3m := hb3n
    try simp only [List.get_eq_getElem] at hb3n
    try simp only [List.get_eq_getElem] at hb3m
    try (have hX : MineOk _ _ := hb3m; obtain ⟨hp1, hp5, hl7, haw⟩ := hX)
    try (have hX : FlowFits _ _ := hb3m; obtain ⟨hfl, hfit⟩ := hX)
    try (have hX := haw k (by omega); obtain ⟨hf0, hf1, ht0, ht1, hft, hw1, hw6⟩ := hX)
    try have hfk := hfit k (by omega)
    try have hb1 := flowOut_bd (m := l.length) hp1 haw hfit k (by omega) (gx l k).f.toNat (by omega)
    try have hb2 := flowMid_bd (m := l.length) hp1 haw hfit k (by omega) (gx l k).t.toNat (by omega)
    try have hbj := flowOut_bd (m := l.length) hp1 haw hfit l.length (by omega) j (by omega)
    try have hnw := neg_wrap ha
    refine kops_gd rfl rfl rfl hb3 rfl (opv_move rfl rfl) ?_
    refine kops_gd rfl rfl rfl hb3 rfl (opv_fab rfl rfl fa_35_0 (by repeat (first | exact List.Mem.head _ | apply List.Mem.tail))) ?_
    refine kops_gd rfl rfl rfl hb3 rfl (opv_load rfl rfl Try.isAgg3 (by repeat (first | exact List.Mem.head _ | apply List.Mem.tail)) (by first | rfl | exact gx_map (by first | omega | (simp only [List.length_set, flowOut_len, flowM_len]; omega)) | (simp; done)) rfl) ?_
    refine kops_gk rfl rfl rfl hb3 (opk_call rfl Try.call60 rfl (c_impl_isIndex _ _) ((perm_nil _)) ((Views.nil _)) ?_)
    rintro _ _ ⟨rfl, rfl⟩
    refine kops_gd rfl rfl rfl hb3 rfl (opv_not rfl rfl) ?_
    refine kops_d rfl rfl (opv_pick_f rfl rfl rfl hb3) ?_
    refine kops_d rfl rfl (opv_move rfl rfl) ?_
    refine kops_split 27 rfl (fun hb6 => ?_) (fun hb6 => ?_)
    ·
      first | have hb6n := kb_nt hb6 | have hb6n := kb_nf hb6 | have hb6n := hb6
      first | have hb6m := of_decide_eq_true hb6n | have hb6m := of_decide_eq_false hb6n | have hb6m := kb_eq hb6n | have hb6m := kb_ne hb6n | have hb6m := kb_bne hb6n | have hb6m := kb_nbne hb6n | have hb6m := isIx_t hb6n | have hb6m := isIx_f hb6n | have hb6m := inR_t hb6n | have hb6m := inR_f hb6n | have hb6m := dec_tt hb6n | have hb6m := dec_ff hb6n | have hb6m := hb6n
      try simp only [List.get_eq_getElem] at hb6n
      try simp only [List.get_eq_getElem] at hb6m
      try (have hX : MineOk _ _ := hb6m; obtain ⟨hp1, hp5, hl7, haw⟩ := hX)
      try (have hX : FlowFits _ _ := hb6m; obtain ⟨hfl, hfit⟩ := hX)
      try (have hX := haw k (by omega); obtain ⟨hf0, hf1, ht0, ht1, hft, hw1, hw6⟩ := hX)
      try have hfk := hfit k (by omega)
      try have hb1 := flowOut_bd (m := l.length) hp1 haw hfit k (by omega) (gx l k).f.toNat (by omega)
      try have hb2 := flowMid_bd (m := l.length) hp1 haw hfit k (by omega) (gx l k).t.toNat (by omega)
      try have hbj := flowOut_bd (m := l.length) hp1 haw hfit l.length (by omega) j (by omega)
      try have hnw := neg_wrap ha
      refine kops_skip rfl rfl rfl hb6 ?_
      refine kops_skip rfl rfl rfl hb6 ?_
      refine kops_skip rfl rfl rfl hb6 ?_
      refine kops_skip rfl rfl rfl hb6 ?_
      refine kops_skip rfl rfl rfl hb6 ?_
      refine kops_d rfl rfl (opv_pick_t rfl rfl rfl hb6) ?_
      refine kops_d rfl rfl (opv_move rfl rfl) ?_
      refine kops_skip rfl rfl rfl rfl ?_
      refine kops_skip rfl rfl rfl rfl ?_
      refine kops_skip rfl rfl rfl rfl ?_
      refine kops_skip rfl rfl rfl rfl ?_
      refine kops_d rfl rfl (opv_pick_t rfl rfl rfl rfl) ?_
      refine kops_nil ?_
      refine kn_then ?_
      refine kwp_cond_t rfl rfl ?_
      refine kwp_seq ?_
      refine kwp_region ?_
      refine kops_d rfl rfl (opv_assign rfl rfl) ?_
      refine kops_nil ?_
      refine kn_then ?_
      refine kwp_ret ?_
      refine kr_then ?_
      refine kret1 [] rfl rfl ?_ (by (repeat (first | exact Sub.refl _ | exact Sub.nil _ | refine Sub.chunk (by repeat (first | exact Pick.here | apply Pick.there)) (by first | rfl | (simp; done) | (congr 1; omega)) ?_)))
      first | exact ⟨vf (fun h => by first | exact absurd h.ok (by assumption) | exact absurd h.fit (by assumption) | (have h2 := h.i0; have h3 := h.i1; have h4 := h.o0; have h5 := h.o1; have h6 := h.fit.len; omega) | (have h6 := h.fit.fit k (by omega); omega)), rfl⟩ | exact ⟨vt ⟨⟨hp1, hp5, hl7, haw⟩, by omega, by omega, by omega, by omega, ⟨hfl, hfit⟩, fun v hv => hall v (by omega)⟩, rfl⟩ | exact ⟨vf (fun h => by have hw := h.all j (by omega); simp only [want] at hw; (repeat' split at hw) <;> omega), rfl⟩ 
    ·
      first | have hb6n := kb_nt hb6 | have hb6n := kb_nf hb6 | have hb6n := hb6
      first | have hb6m := of_decide_eq_true hb6n | have hb6m := of_decide_eq_false hb6n | have hb6m := kb_eq hb6n | have hb6m := kb_ne hb6n | have hb6m := kb_bne hb6n | have hb6m := kb_nbne hb6n | have hb6m := isIx_t hb6n | have hb6m := isIx_f hb6n | have hb6m := inR_t hb6n | have hb6m := inR_f hb6n | have hb6m := dec_tt hb6n | have hb6m := dec_ff hb6n | have hb6m := hb6n
      try simp only [List.get_eq_getElem] at hb6n
      try simp only [List.get_eq_getElem] at hb6m
      try (have hX : MineOk _ _ := hb6m; obtain ⟨hp1, hp5, hl7, haw⟩ := hX)
      try (have hX : FlowFits _ _ := hb6m; obtain ⟨hfl, hfit⟩ := hX)
      try (have hX := haw k (by omega); obtain ⟨hf0, hf1, ht0, ht1, hft, hw1, hw6⟩ := hX)
      try have hfk := hfit k (by omega)
      try have hb1 := flowOut_bd (m := l.length) hp1 haw hfit k (by omega) (gx l k).f.toNat (by omega)
      try have hb2 := flowMid_bd (m := l.length) hp1 haw hfit k (by omega) (gx l k).t.toNat (by omega)
      try have hbj := flowOut_bd (m := l.length) hp1 haw hfit l.length (by omega) j (by omega)
      try have hnw := neg_wrap ha
      refine kops_gd rfl rfl rfl hb6 rfl (opv_move rfl rfl) ?_
      refine kops_gd rfl rfl rfl hb6 rfl (opv_fab rfl rfl fa_35_0 (by repeat (first | exact List.Mem.head _ | apply List.Mem.tail))) ?_
      refine kops_gd rfl rfl rfl hb6 rfl (opv_load rfl rfl Try.isAgg3 (by repeat (first | exact List.Mem.head _ | apply List.Mem.tail)) (by first | rfl | exact gx_map (by first | omega | (simp only [List.length_set, flowOut_len, flowM_len]; omega)) | (simp; done)) rfl) ?_
      refine kops_gk rfl rfl rfl hb6 (opk_call rfl Try.call60 rfl (c_impl_isIndex _ _) ((perm_nil _)) ((Views.nil _)) ?_)
      rintro _ _ ⟨rfl, rfl⟩
      refine kops_gd rfl rfl rfl hb6 rfl (opv_not rfl rfl) ?_
      refine kops_d rfl rfl (opv_pick_f rfl rfl rfl hb6) ?_
      refine kops_d rfl rfl (opv_move rfl rfl) ?_
      refine kops_split 34 rfl (fun hb9 => ?_) (fun hb9 => ?_)
      ·
        first | have hb9n := kb_nt hb9 | have hb9n := kb_nf hb9 | have hb9n := hb9
        first | have hb9m := of_decide_eq_true hb9n | have hb9m := of_decide_eq_false hb9n | have hb9m := kb_eq hb9n | have hb9m := kb_ne hb9n | have hb9m := kb_bne hb9n | have hb9m := kb_nbne hb9n | have hb9m := isIx_t hb9n | have hb9m := isIx_f hb9n | have hb9m := inR_t hb9n | have hb9m := inR_f hb9n | have hb9m := dec_tt hb9n | have hb9m := dec_ff hb9n | have hb9m := hb9n
        try simp only [List.get_eq_getElem] at hb9n
        try simp only [List.get_eq_getElem] at hb9m
        try (have hX : MineOk _ _ := hb9m; obtain ⟨hp1, hp5, hl7, haw⟩ := hX)
        try (have hX : FlowFits _ _ := hb9m; obtain ⟨hfl, hfit⟩ := hX)
        try (have hX := haw k (by omega); obtain ⟨hf0, hf1, ht0, ht1, hft, hw1, hw6⟩ := hX)
        try have hfk := hfit k (by omega)
        try have hb1 := flowOut_bd (m := l.length) hp1 haw hfit k (by omega) (gx l k).f.toNat (by omega)
        try have hb2 := flowMid_bd (m := l.length) hp1 haw hfit k (by omega) (gx l k).t.toNat (by omega)
        try have hbj := flowOut_bd (m := l.length) hp1 haw hfit l.length (by omega) j (by omega)
        try have hnw := neg_wrap ha
        refine kops_skip rfl rfl rfl hb9 ?_
        refine kops_skip rfl rfl rfl hb9 ?_
        refine kops_skip rfl rfl rfl hb9 ?_
        refine kops_skip rfl rfl rfl hb9 ?_
        refine kops_d rfl rfl (opv_pick_t rfl rfl rfl hb9) ?_
        refine kops_nil ?_
        refine kn_then ?_
        refine kwp_cond_t rfl rfl ?_
        refine kwp_seq ?_
        refine kwp_region ?_
        refine kops_d rfl rfl (opv_assign rfl rfl) ?_
        refine kops_nil ?_
        refine kn_then ?_
        refine kwp_ret ?_
        refine kr_then ?_
        refine kret1 [] rfl rfl ?_ (by (repeat (first | exact Sub.refl _ | exact Sub.nil _ | refine Sub.chunk (by repeat (first | exact Pick.here | apply Pick.there)) (by first | rfl | (simp; done) | (congr 1; omega)) ?_)))
        first | exact ⟨vf (fun h => by first | exact absurd h.ok (by assumption) | exact absurd h.fit (by assumption) | (have h2 := h.i0; have h3 := h.i1; have h4 := h.o0; have h5 := h.o1; have h6 := h.fit.len; omega) | (have h6 := h.fit.fit k (by omega); omega)), rfl⟩ | exact ⟨vt ⟨⟨hp1, hp5, hl7, haw⟩, by omega, by omega, by omega, by omega, ⟨hfl, hfit⟩, fun v hv => hall v (by omega)⟩, rfl⟩ | exact ⟨vf (fun h => by have hw := h.all j (by omega); simp only [want] at hw; (repeat' split at hw) <;> omega), rfl⟩ 
      ·
        first | have hb9n := kb_nt hb9 | have hb9n := kb_nf hb9 | have hb9n := hb9
        first | have hb9m := of_decide_eq_true hb9n | have hb9m := of_decide_eq_false hb9n | have hb9m := kb_eq hb9n | have hb9m := kb_ne hb9n | have hb9m := kb_bne hb9n | have hb9m := kb_nbne hb9n | have hb9m := isIx_t hb9n | have hb9m := isIx_f hb9n | have hb9m := inR_t hb9n | have hb9m := inR_f hb9n | have hb9m := dec_tt hb9n | have hb9m := dec_ff hb9n | have hb9m := hb9n
        try simp only [List.get_eq_getElem] at hb9n
        try simp only [List.get_eq_getElem] at hb9m
        try (have hX : MineOk _ _ := hb9m; obtain ⟨hp1, hp5, hl7, haw⟩ := hX)
        try (have hX : FlowFits _ _ := hb9m; obtain ⟨hfl, hfit⟩ := hX)
        try (have hX := haw k (by omega); obtain ⟨hf0, hf1, ht0, ht1, hft, hw1, hw6⟩ := hX)
        try have hfk := hfit k (by omega)
        try have hb1 := flowOut_bd (m := l.length) hp1 haw hfit k (by omega) (gx l k).f.toNat (by omega)
        try have hb2 := flowMid_bd (m := l.length) hp1 haw hfit k (by omega) (gx l k).t.toNat (by omega)
        try have hbj := flowOut_bd (m := l.length) hp1 haw hfit l.length (by omega) j (by omega)
        try have hnw := neg_wrap ha
        refine kops_gd rfl rfl rfl hb9 rfl (opv_load_box rfl rfl Try.isAgg35 Try.sizeOf35 (by repeat (first | exact List.Mem.head _ | apply List.Mem.tail))) ?_
        refine kops_gd rfl rfl rfl hb9 rfl (opv_move rfl rfl) ?_
        refine kops_gk rfl rfl rfl hb9 (opk_call rfl Try.call66 rfl (c_impl_flowFits _ _ _ _ _ _ _ _ _ ⟨by omega, by omega⟩) ((perm_nil _)) (Views.cons (by repeat (first | exact List.Mem.head _ | apply List.Mem.tail)) (View.refl _) (Views.cons (by repeat (first | exact List.Mem.head _ | apply List.Mem.tail)) (View.refl _) ((Views.nil _)))) ?_)
        rintro _ _ ⟨rfl, rfl⟩
        refine kops_gd rfl rfl rfl hb9 rfl (opv_not rfl rfl) ?_
        refine kops_d rfl rfl (opv_pick_f rfl rfl rfl hb9) ?_
        refine kops_nil ?_
        refine kn_then ?_
        refine kwp_cond rfl (fun hc12 => ?_) (fun hc12 => ?_)
        ·
          first | have hc12n := kb_nt hc12 | have hc12n := kb_nf hc12 | have hc12n := hc12
          first | have hc12m := of_decide_eq_true hc12n | have hc12m := of_decide_eq_false hc12n | have hc12m := kb_eq hc12n | have hc12m := kb_ne hc12n | have hc12m := kb_bne hc12n | have hc12m := kb_nbne hc12n | have hc12m := isIx_t hc12n | have hc12m := isIx_f hc12n | have hc12m := inR_t hc12n | have hc12m := inR_f hc12n | have hc12m := dec_tt hc12n | have hc12m := dec_ff hc12n | have hc12m := hc12n
          try simp only [List.get_eq_getElem] at hc12n
          try simp only [List.get_eq_getElem] at hc12m
          try (have hX : MineOk _ _ := hc12m; obtain ⟨hp1, hp5, hl7, haw⟩ := hX)
          try (have hX : FlowFits _ _ := hc12m; obtain ⟨hfl, hfit⟩ := hX)
          try (have hX := haw k (by omega); obtain ⟨hf0, hf1, ht0, ht1, hft, hw1, hw6⟩ := hX)
          try have hfk := hfit k (by omega)
          try have hb1 := flowOut_bd (m := l.length) hp1 haw hfit k (by omega) (gx l k).f.toNat (by omega)
          try have hb2 := flowMid_bd (m := l.length) hp1 haw hfit k (by omega) (gx l k).t.toNat (by omega)
          try have hbj := flowOut_bd (m := l.length) hp1 haw hfit l.length (by omega) j (by omega)
          try have hnw := neg_wrap ha
          refine kwp_seq ?_
          refine kwp_region ?_
          refine kops_d rfl rfl (opv_assign rfl rfl) ?_
          refine kops_nil ?_
          refine kn_then ?_
          refine kwp_ret ?_
          refine kr_then ?_
          refine kret1 [] rfl rfl ?_ (by (repeat (first | exact Sub.refl _ | exact Sub.nil _ | refine Sub.chunk (by repeat (first | exact Pick.here | apply Pick.there)) (by first | rfl | (simp; done) | (congr 1; omega)) ?_)))
          first | exact ⟨vf (fun h => by first | exact absurd h.ok (by assumption) | exact absurd h.fit (by assumption) | (have h2 := h.i0; have h3 := h.i1; have h4 := h.o0; have h5 := h.o1; have h6 := h.fit.len; omega) | (have h6 := h.fit.fit k (by omega); omega)), rfl⟩ | exact ⟨vt ⟨⟨hp1, hp5, hl7, haw⟩, by omega, by omega, by omega, by omega, ⟨hfl, hfit⟩, fun v hv => hall v (by omega)⟩, rfl⟩ | exact ⟨vf (fun h => by have hw := h.all j (by omega); simp only [want] at hw; (repeat' split at hw) <;> omega), rfl⟩ 
        ·
          first | have hc12n := kb_nt hc12 | have hc12n := kb_nf hc12 | have hc12n := hc12
          first | have hc12m := of_decide_eq_true hc12n | have hc12m := of_decide_eq_false hc12n | have hc12m := kb_eq hc12n | have hc12m := kb_ne hc12n | have hc12m := kb_bne hc12n | have hc12m := kb_nbne hc12n | have hc12m := isIx_t hc12n | have hc12m := isIx_f hc12n | have hc12m := inR_t hc12n | have hc12m := inR_f hc12n | have hc12m := dec_tt hc12n | have hc12m := dec_ff hc12n | have hc12m := hc12n
          try simp only [List.get_eq_getElem] at hc12n
          try simp only [List.get_eq_getElem] at hc12m
          try (have hX : MineOk _ _ := hc12m; obtain ⟨hp1, hp5, hl7, haw⟩ := hX)
          try (have hX : FlowFits _ _ := hc12m; obtain ⟨hfl, hfit⟩ := hX)
          try (have hX := haw k (by omega); obtain ⟨hf0, hf1, ht0, ht1, hft, hw1, hw6⟩ := hX)
          try have hfk := hfit k (by omega)
          try have hb1 := flowOut_bd (m := l.length) hp1 haw hfit k (by omega) (gx l k).f.toNat (by omega)
          try have hb2 := flowMid_bd (m := l.length) hp1 haw hfit k (by omega) (gx l k).t.toNat (by omega)
          try have hbj := flowOut_bd (m := l.length) hp1 haw hfit l.length (by omega) j (by omega)
          try have hnw := neg_wrap ha
          refine kwp_skip ?_
          refine kn_then ?_
          refine kwp_seq ?_
          refine kwp_region ?_
          refine kops_d rfl rfl (opv_fab rfl rfl fa_35_0 (by repeat (first | exact List.Mem.head _ | apply List.Mem.tail))) ?_
          refine kops_d rfl rfl (opv_load rfl rfl Try.isAgg3 (by repeat (first | exact List.Mem.head _ | apply List.Mem.tail)) (by first | rfl | exact gx_map (by first | omega | (simp only [List.length_set, flowOut_len, flowM_len]; omega)) | (simp; done)) rfl) ?_
          refine kops_step rfl (opk_make (zs := [(.int .i64 0)]) rfl rfl rfl Try.underlying39 Try.type3 rfl rfl rfl rfl (by decide) (by omega) (show ((8 : Nat) : Int) * _ ≤ 281474976710656 by omega) (by omega) (fun a42 => ?_))
          refine kops_d rfl rfl (opv_assign rfl rfl) ?_
          refine kops_nil ?_
          refine kn_then ?_
          refine kwp_seq ?_
          refine kwp_seq ?_
          refine kwp_region ?_
          refine kops_d rfl rfl (opv_fab rfl rfl fa_35_1 (by repeat (first | exact List.Mem.head _ | apply List.Mem.tail))) ?_
          refine kops_d rfl rfl (opv_load rfl rfl Try.isAgg33 (by repeat (first | exact List.Mem.head _ | apply List.Mem.tail)) (by first | rfl | exact gx_map (by first | omega | (simp only [List.length_set, flowOut_len, flowM_len]; omega)) | (simp; done)) rfl) ?_
          refine kops_d rfl rfl (opv_len rfl rfl rfl Try.runUnderlying33) ?_
          refine kops_d rfl rfl (opv_move rfl rfl) ?_
          refine kops_nil ?_
          refine kn_then ?_
          refine kwp_block ?_
          refine kwp_loop1 (inv := [(1, _), (2, _), (3, _), (4, _), (10, _), (11, _), (44, _), (45, _)]) (ic := [])
            (fun (k : Nat) => [(46, .int .i64 k)])
            (fun (k : Nat) => [⟨.slice (some a42) p.toNat p.toNat, 1, (flowOut p.toNat l fl k).map encI⟩])
            (fun (k : Nat) => k ≤ l.length)
            (fun (k : Nat) => l.length - k)
            ⟨0, ⟨by first | trivial | omega | (refine ⟨?_, ?_⟩ <;> omega) | (simp; done), by (repeat (first | exact Knows.nil _ | refine Knows.cons2 rfl (by first | rfl | (simp [flowOut, encI]; done)) ?_)), by (repeat (first | exact Sub.refl _ | exact Sub.nil _ | refine Sub.chunk (by repeat (first | exact Pick.here | apply Pick.there)) (by first | rfl | (simp [flowOut, encI]; done)) ?_))⟩⟩ (fun k hp => ?_)
          refine kwp_seq ?_
          refine kwp_region ?_
          refine kops_d rfl rfl (opv_cmp rfl rfl rfl rfl) ?_
          refine kops_nil ?_
          refine kn_then ?_
          refine kwp_seq ?_
          refine kwp_cond rfl (fun hc14 => ?_) (fun hc14 => ?_)
          ·
            first | have hc14n := kb_nt hc14 | have hc14n := kb_nf hc14 | have hc14n := hc14
            first | have hc14m := of_decide_eq_true hc14n | have hc14m := of_decide_eq_false hc14n | have hc14m := kb_eq hc14n | have hc14m := kb_ne hc14n | have hc14m := kb_bne hc14n | have hc14m := kb_nbne hc14n | have hc14m := isIx_t hc14n | have hc14m := isIx_f hc14n | have hc14m := inR_t hc14n | have hc14m := inR_f hc14n | have hc14m := dec_tt hc14n | have hc14m := dec_ff hc14n | have hc14m := hc14n
            try simp only [List.get_eq_getElem] at hc14n
            try simp only [List.get_eq_getElem] at hc14m
            try (have hX : MineOk _ _ := hc14m; obtain ⟨hp1, hp5, hl7, haw⟩ := hX)
            try (have hX : FlowFits _ _ := hc14m; obtain ⟨hfl, hfit⟩ := hX)
            try (have hX := haw k (by omega); obtain ⟨hf0, hf1, ht0, ht1, hft, hw1, hw6⟩ := hX)
            try have hfk := hfit k (by omega)
            try have hb1 := flowOut_bd (m := l.length) hp1 haw hfit k (by omega) (gx l k).f.toNat (by omega)
            try have hb2 := flowMid_bd (m := l.length) hp1 haw hfit k (by omega) (gx l k).t.toNat (by omega)
            try have hbj := flowOut_bd (m := l.length) hp1 haw hfit l.length (by omega) j (by omega)
            try have hnw := neg_wrap ha
            refine kwp_skip ?_
            refine kn_then ?_
            refine kwp_seq ?_
            refine kwp_block ?_
            refine kwp_seq ?_
            refine kwp_region ?_
            refine kops_d rfl rfl (opv_move rfl rfl) ?_
            refine kops_d rfl rfl (opv_ia rfl rfl rfl Try.runUnderlying33 Try.sizeOf77 (by repeat (first | exact List.Mem.head _ | apply List.Mem.tail)) (by first | rfl | exact (Int.toNat_of_nonneg (by omega)).symm) (by first | omega | (simp only [List.length_map]; omega) | (simp only [List.length_set, List.length_map, flowOut_len, flowM_len]; omega) | (simp; omega) | (simp; done))) ?_
            refine kops_d rfl rfl (opv_load_agg rfl rfl Try.isAgg77 Try.sizeOf77 (by repeat (first | exact List.Mem.head _ | apply List.Mem.tail)) (by first | rfl | exact gx_map (by first | omega | (simp only [List.length_set, flowOut_len, flowM_len]; omega)) | (simp; done))) ?_
            refine kops_step rfl (opk_alloc' (e := [_, _, _]) 3 rfl Try.zeroValue77 rfl rfl (by decide) (fun p13 => ?_))
            refine kops_d rfl rfl (opv_assign rfl rfl) ?_
            refine kops_step rfl (opk_store_box (e' := [_, _, _]) rfl rfl rfl Try.sizeOf77 rfl (by first | exact one_aw | exact one_int | exact one_sill | decide | (simp [Value.oneCell']; done) | (intro x hx; simp at hx; rcases hx with rfl | rfl | rfl | rfl | rfl <;> rfl)) rfl (by repeat (first | exact Upd.here | apply Upd.there)) ?_)
            refine kops_nil ?_
            refine kn_then ?_
            refine kwp_seq ?_
            refine kwp_draw [(0, true), (1, true), (2, true), (3, true), (4, true), (5, true), (6, true), (7, true), (8, true), (9, true), (10, true), (11, false)] [11] _ drawMixed (by kernel_rfl) (fun _ _ _ h => h) (Sub.refl _) ?_
            refine ks_d rfl rfl rfl (opv_move rfl rfl) ?_
            refine ks_d rfl rfl rfl (opv_fab rfl rfl fa_77_0 (by repeat (first | exact List.Mem.head _ | apply List.Mem.tail))) ?_
            refine ks_d rfl rfl rfl (opv_load rfl rfl Try.isAgg3 (by repeat (first | exact List.Mem.head _ | apply List.Mem.tail)) (by first | rfl | exact gx_map (by first | omega | (simp only [List.length_set, flowOut_len, flowM_len]; omega)) | (simp; done)) rfl) ?_
            refine ks_d rfl rfl rfl (opv_ia rfl rfl rfl Try.runUnderlying39 Try.sizeOf3 (by repeat (first | exact List.Mem.head _ | apply List.Mem.tail)) (by first | rfl | exact (Int.toNat_of_nonneg (by omega)).symm) (by first | omega | (simp only [List.length_map]; omega) | (simp only [List.length_set, List.length_map, flowOut_len, flowM_len]; omega) | (simp; omega) | (simp; done))) ?_
            refine ks_d rfl rfl rfl (opv_load rfl rfl Try.isAgg3 (by repeat (first | exact List.Mem.head _ | apply List.Mem.tail)) (by first | rfl | exact gx_map (by first | omega | (simp only [List.length_set, flowOut_len, flowM_len]; omega)) | (simp; done)) rfl) ?_
            refine ks_d rfl rfl rfl (opv_move rfl rfl) ?_
            refine ks_d rfl rfl rfl (opv_move rfl rfl) ?_
            refine ks_d rfl rfl rfl (opv_ia rfl rfl rfl Try.runUnderlying39 Try.sizeOf3 (by repeat (first | exact List.Mem.head _ | apply List.Mem.tail)) (by first | rfl | exact (Int.toNat_of_nonneg (by omega)).symm) (by first | omega | (simp only [List.length_map]; omega) | (simp only [List.length_set, List.length_map, flowOut_len, flowM_len]; omega) | (simp; omega) | (simp; done))) ?_
            refine ks_d rfl rfl rfl (opv_load rfl rfl Try.isAgg3 (by repeat (first | exact List.Mem.head _ | apply List.Mem.tail)) (by first | rfl | exact gx_map (by first | omega | (simp only [List.length_set, flowOut_len, flowM_len]; omega)) | (simp; done)) rfl) ?_
            refine ks_d rfl rfl rfl (by first | exact opv_add rfl rfl rfl ⟨by omega, by omega⟩ | exact opv_ari rfl rfl rfl rfl) ?_
            refine ks_d rfl rfl rfl (opv_ia rfl rfl rfl Try.runUnderlying39 Try.sizeOf3 (by repeat (first | exact List.Mem.head _ | apply List.Mem.tail)) (by first | rfl | exact (Int.toNat_of_nonneg (by omega)).symm) (by first | omega | (simp only [List.length_map]; omega) | (simp only [List.length_set, List.length_map, flowOut_len, flowM_len]; omega) | (simp; omega) | (simp; done))) ?_
            first | refine ks_k rfl rfl (opk_store_i rfl rfl rfl Try.sizeOf3 (by repeat (first | exact Upd.here | apply Upd.there)) (by first | omega | (simp only [List.length_map]; omega) | (simp only [List.length_set, List.length_map, flowOut_len, flowM_len]; omega) | (simp; omega) | (simp; done)) ?_) | refine ks_k rfl rfl (opk_store rfl rfl rfl Try.sizeOf3 rfl (by repeat (first | exact Upd.here | apply Upd.there)) (by first | rfl | exact gx_map (by first | omega | (simp only [List.length_set, flowOut_len, flowM_len]; omega)) | (simp; done)) (by decide) ?_)
            refine ⟨.inr ⟨by decide, rfl⟩, ?_⟩
            refine ks_nil ?_
            refine kn_then ?_
            refine kwp_draw [(0, true), (1, true), (2, true), (3, true), (4, true), (5, true), (6, true), (7, true), (8, true), (9, true), (10, true), (11, false)] [11] _ drawMixed (by kernel_rfl) (fun _ _ _ h => h) (Sub.refl _) ?_
            refine ks_d rfl rfl rfl (opv_move rfl rfl) ?_
            refine ks_d rfl rfl rfl (opv_fab rfl rfl fa_77_1 (by repeat (first | exact List.Mem.head _ | apply List.Mem.tail))) ?_
            refine ks_d rfl rfl rfl (opv_load rfl rfl Try.isAgg3 (by repeat (first | exact List.Mem.head _ | apply List.Mem.tail)) (by first | rfl | exact gx_map (by first | omega | (simp only [List.length_set, flowOut_len, flowM_len]; omega)) | (simp; done)) rfl) ?_
            refine ks_d rfl rfl rfl (opv_ia rfl rfl rfl Try.runUnderlying39 Try.sizeOf3 (by repeat (first | exact List.Mem.head _ | apply List.Mem.tail)) (by first | rfl | exact (Int.toNat_of_nonneg (by omega)).symm) (by first | omega | (simp only [List.length_map]; omega) | (simp only [List.length_set, List.length_map, flowOut_len, flowM_len]; omega) | (simp; omega) | (simp; done))) ?_
            refine ks_d rfl rfl rfl (opv_load rfl rfl Try.isAgg3 (by repeat (first | exact List.Mem.head _ | apply List.Mem.tail)) (by first | rfl | exact gx_map (by first | omega | (simp only [List.length_set, flowOut_len, flowM_len]; omega)) | (simp; done)) rfl) ?_
            refine ks_d rfl rfl rfl (opv_move rfl rfl) ?_
            refine ks_d rfl rfl rfl (opv_move rfl rfl) ?_
            refine ks_d rfl rfl rfl (opv_ia rfl rfl rfl Try.runUnderlying39 Try.sizeOf3 (by repeat (first | exact List.Mem.head _ | apply List.Mem.tail)) (by first | rfl | exact (Int.toNat_of_nonneg (by omega)).symm) (by first | omega | (simp only [List.length_map]; omega) | (simp only [List.length_set, List.length_map, flowOut_len, flowM_len]; omega) | (simp; omega) | (simp; done))) ?_
            refine ks_d rfl rfl rfl (opv_load rfl rfl Try.isAgg3 (by repeat (first | exact List.Mem.head _ | apply List.Mem.tail)) (by first | rfl | exact gx_map (by first | omega | (simp only [List.length_set, flowOut_len, flowM_len]; omega)) | (simp; done)) rfl) ?_
            refine ks_d rfl rfl rfl (by first | exact opv_sub rfl rfl rfl ⟨by omega, by omega⟩ | exact opv_ari rfl rfl rfl rfl) ?_
            refine ks_d rfl rfl rfl (opv_ia rfl rfl rfl Try.runUnderlying39 Try.sizeOf3 (by repeat (first | exact List.Mem.head _ | apply List.Mem.tail)) (by first | rfl | exact (Int.toNat_of_nonneg (by omega)).symm) (by first | omega | (simp only [List.length_map]; omega) | (simp only [List.length_set, List.length_map, flowOut_len, flowM_len]; omega) | (simp; omega) | (simp; done))) ?_
            first | refine ks_k rfl rfl (opk_store_i rfl rfl rfl Try.sizeOf3 (by repeat (first | exact Upd.here | apply Upd.there)) (by first | omega | (simp only [List.length_map]; omega) | (simp only [List.length_set, List.length_map, flowOut_len, flowM_len]; omega) | (simp; omega) | (simp; done)) ?_) | refine ks_k rfl rfl (opk_store rfl rfl rfl Try.sizeOf3 rfl (by repeat (first | exact Upd.here | apply Upd.there)) (by first | rfl | exact gx_map (by first | omega | (simp only [List.length_set, flowOut_len, flowM_len]; omega)) | (simp; done)) (by decide) ?_)
            refine ⟨.inr ⟨by decide, rfl⟩, ?_⟩
            refine ks_nil ?_
            refine kn_block ?_
            refine kn_then ?_
            refine kwp_region ?_
            refine kops_d rfl rfl (by first | exact opv_add rfl rfl rfl ⟨by omega, by omega⟩ | exact opv_ari rfl rfl rfl rfl) ?_
            refine kops_d rfl rfl (opv_move rfl rfl) ?_
            refine kops_nil ?_
            refine kn_then ?_
            exact ⟨k + 1, ⟨by first | trivial | omega | (refine ⟨?_, ?_⟩ <;> omega) | (simp; done), by (repeat (first | exact Knows.nil _ | refine Knows.cons2 rfl (by first | rfl | (simp; done) | (congr 1; omega)) ?_)), by (repeat (first | exact Sub.refl _ | exact Sub.nil _ | refine Sub.chunk (by repeat (first | exact Pick.here | apply Pick.there)) (by first | rfl | (simp; done) | (congr 1; omega)) ?_))⟩, by omega⟩
          ·
            first | have hc14n := kb_nt hc14 | have hc14n := kb_nf hc14 | have hc14n := hc14
            first | have hc14m := of_decide_eq_true hc14n | have hc14m := of_decide_eq_false hc14n | have hc14m := kb_eq hc14n | have hc14m := kb_ne hc14n | have hc14m := kb_bne hc14n | have hc14m := kb_nbne hc14n | have hc14m := isIx_t hc14n | have hc14m := isIx_f hc14n | have hc14m := inR_t hc14n | have hc14m := inR_f hc14n | have hc14m := dec_tt hc14n | have hc14m := dec_ff hc14n | have hc14m := hc14n
            try simp only [List.get_eq_getElem] at hc14n
            try simp only [List.get_eq_getElem] at hc14m
            try (have hX : MineOk _ _ := hc14m; obtain ⟨hp1, hp5, hl7, haw⟩ := hX)
            try (have hX : FlowFits _ _ := hc14m; obtain ⟨hfl, hfit⟩ := hX)
            try (have hX := haw k (by omega); obtain ⟨hf0, hf1, ht0, ht1, hft, hw1, hw6⟩ := hX)
            try have hfk := hfit k (by omega)
            try have hb1 := flowOut_bd (m := l.length) hp1 haw hfit k (by omega) (gx l k).f.toNat (by omega)
            try have hb2 := flowMid_bd (m := l.length) hp1 haw hfit k (by omega) (gx l k).t.toNat (by omega)
            try have hbj := flowOut_bd (m := l.length) hp1 haw hfit l.length (by omega) j (by omega)
            try have hnw := neg_wrap ha
            refine kwp_exit ?_
            refine ke_then ?_
            refine ke_then ?_
            refine ke_block ?_
            refine kn_then ?_
            refine kwp_seq ?_
            refine kwp_seq ?_
            refine kwp_region ?_
            refine kops_d rfl rfl (opv_move rfl rfl) ?_
            refine kops_d rfl rfl (opv_len rfl rfl rfl Try.runUnderlying39) ?_
            refine kops_d rfl rfl (opv_move rfl rfl) ?_
            refine kops_nil ?_
            refine kn_then ?_
            refine kwp_block ?_
            obtain rfl : k = l.length := by omega
            refine kwp_loop1 (inv := [(1, _), (2, _), (3, _), (74, _), (75, _)]) (ic := [])
              (fun (j : Nat) => [(76, .int .i64 j)])
              (fun (j : Nat) => [⟨.slice (some a42) p.toNat p.toNat, 1, (flowOut p.toNat l fl l.length).map encI⟩])
              (fun (j : Nat) => j ≤ p.toNat ∧ (∀ v, v < j → gx (flowOut p.toNat l fl l.length) v = want i o amt v))
              (fun (j : Nat) => p.toNat - j)
              ⟨0, ⟨by (exact ⟨by omega, fun i hi => by omega⟩), by (repeat (first | exact Knows.nil _ | refine Knows.cons2 rfl (by first | rfl | (simp; done) | (congr 1; omega)) ?_)), by (repeat (first | exact Sub.refl _ | exact Sub.nil _ | refine Sub.chunk (by repeat (first | exact Pick.here | apply Pick.there)) (by first | rfl | (simp; done) | (congr 1; omega)) ?_))⟩⟩ (fun j hp => ?_)
            obtain ⟨hj, hall⟩ := hp
            refine kwp_seq ?_
            refine kwp_region ?_
            refine kops_d rfl rfl (opv_cmp rfl rfl rfl rfl) ?_
            refine kops_nil ?_
            refine kn_then ?_
            refine kwp_seq ?_
            refine kwp_cond rfl (fun hc16 => ?_) (fun hc16 => ?_)
            ·
              first | have hc16n := kb_nt hc16 | have hc16n := kb_nf hc16 | have hc16n := hc16
              first | have hc16m := of_decide_eq_true hc16n | have hc16m := of_decide_eq_false hc16n | have hc16m := kb_eq hc16n | have hc16m := kb_ne hc16n | have hc16m := kb_bne hc16n | have hc16m := kb_nbne hc16n | have hc16m := isIx_t hc16n | have hc16m := isIx_f hc16n | have hc16m := inR_t hc16n | have hc16m := inR_f hc16n | have hc16m := dec_tt hc16n | have hc16m := dec_ff hc16n | have hc16m := hc16n
              try simp only [List.get_eq_getElem] at hc16n
              try simp only [List.get_eq_getElem] at hc16m
              try (have hX : MineOk _ _ := hc16m; obtain ⟨hp1, hp5, hl7, haw⟩ := hX)
              try (have hX : FlowFits _ _ := hc16m; obtain ⟨hfl, hfit⟩ := hX)
              try (have hX := haw k (by omega); obtain ⟨hf0, hf1, ht0, ht1, hft, hw1, hw6⟩ := hX)
              try have hfk := hfit k (by omega)
              try have hb1 := flowOut_bd (m := l.length) hp1 haw hfit k (by omega) (gx l k).f.toNat (by omega)
              try have hb2 := flowMid_bd (m := l.length) hp1 haw hfit k (by omega) (gx l k).t.toNat (by omega)
              try have hbj := flowOut_bd (m := l.length) hp1 haw hfit l.length (by omega) j (by omega)
              try have hnw := neg_wrap ha
              refine kwp_skip ?_
              refine kn_then ?_
              refine kwp_seq ?_
              refine kwp_block ?_
              refine kwp_seq ?_
              refine kwp_region ?_
              refine kops_d rfl rfl (opv_move rfl rfl) ?_
              refine kops_d rfl rfl (opv_ia rfl rfl rfl Try.runUnderlying39 Try.sizeOf3 (by repeat (first | exact List.Mem.head _ | apply List.Mem.tail)) (by first | rfl | exact (Int.toNat_of_nonneg (by omega)).symm) (by first | omega | (simp only [List.length_map]; omega) | (simp only [List.length_set, List.length_map, flowOut_len, flowM_len]; omega) | (simp; omega) | (simp; done))) ?_
              refine kops_d rfl rfl (opv_load rfl rfl Try.isAgg3 (by repeat (first | exact List.Mem.head _ | apply List.Mem.tail)) (by first | rfl | exact gx_map (by first | omega | (simp only [List.length_set, flowOut_len, flowM_len]; omega)) | (simp; done)) rfl) ?_
              refine kops_d rfl rfl (opv_assign rfl rfl) ?_
              refine kops_d rfl rfl (opv_assign rfl rfl) ?_
              refine kops_nil ?_
              refine kn_then ?_
              refine kwp_seq ?_
              refine kwp_region ?_
              refine kops_d rfl rfl (opv_assign rfl rfl) ?_
              refine kops_nil ?_
              refine kn_then ?_
              refine kwp_seq ?_
              refine kwp_seq ?_
              refine kwp_region ?_
              refine kops_d rfl rfl (opv_move rfl rfl) ?_
              refine kops_d rfl rfl (opv_move rfl rfl) ?_
              refine kops_d rfl rfl (opv_cmp rfl rfl rfl rfl) ?_
              refine kops_d rfl rfl (opv_move rfl rfl) ?_
              refine kops_split 84 rfl (fun hb18 => ?_) (fun hb18 => ?_)
              ·
                first | have hb18n := kb_nt hb18 | have hb18n := kb_nf hb18 | have hb18n := hb18
                first | have hb18m := of_decide_eq_true hb18n | have hb18m := of_decide_eq_false hb18n | have hb18m := kb_eq hb18n | have hb18m := kb_ne hb18n | have hb18m := kb_bne hb18n | have hb18m := kb_nbne hb18n | have hb18m := isIx_t hb18n | have hb18m := isIx_f hb18n | have hb18m := inR_t hb18n | have hb18m := inR_f hb18n | have hb18m := dec_tt hb18n | have hb18m := dec_ff hb18n | have hb18m := hb18n
                try simp only [List.get_eq_getElem] at hb18n
                try simp only [List.get_eq_getElem] at hb18m
                try (have hX : MineOk _ _ := hb18m; obtain ⟨hp1, hp5, hl7, haw⟩ := hX)
                try (have hX : FlowFits _ _ := hb18m; obtain ⟨hfl, hfit⟩ := hX)
                try (have hX := haw k (by omega); obtain ⟨hf0, hf1, ht0, ht1, hft, hw1, hw6⟩ := hX)
                try have hfk := hfit k (by omega)
                try have hb1 := flowOut_bd (m := l.length) hp1 haw hfit k (by omega) (gx l k).f.toNat (by omega)
                try have hb2 := flowMid_bd (m := l.length) hp1 haw hfit k (by omega) (gx l k).t.toNat (by omega)
                try have hbj := flowOut_bd (m := l.length) hp1 haw hfit l.length (by omega) j (by omega)
                try have hnw := neg_wrap ha
                refine kops_gd rfl rfl rfl hb18 rfl (opv_move rfl rfl) ?_
                refine kops_gd rfl rfl rfl hb18 rfl (opv_move rfl rfl) ?_
                refine kops_gd rfl rfl rfl hb18 rfl (opv_cmp rfl rfl rfl rfl) ?_
                refine kops_d rfl rfl (opv_pick_t rfl rfl rfl hb18) ?_
                refine kops_nil ?_
                refine kn_then ?_
                refine kwp_cond rfl (fun hc20 => ?_) (fun hc20 => ?_)
                ·
                  first | have hc20n := kb_nt hc20 | have hc20n := kb_nf hc20 | have hc20n := hc20
                  first | have hc20m := of_decide_eq_true hc20n | have hc20m := of_decide_eq_false hc20n | have hc20m := kb_eq hc20n | have hc20m := kb_ne hc20n | have hc20m := kb_bne hc20n | have hc20m := kb_nbne hc20n | have hc20m := isIx_t hc20n | have hc20m := isIx_f hc20n | have hc20m := inR_t hc20n | have hc20m := inR_f hc20n | have hc20m := dec_tt hc20n | have hc20m := dec_ff hc20n | have hc20m := hc20n
                  try simp only [List.get_eq_getElem] at hc20n
                  try simp only [List.get_eq_getElem] at hc20m
                  try (have hX : MineOk _ _ := hc20m; obtain ⟨hp1, hp5, hl7, haw⟩ := hX)
                  try (have hX : FlowFits _ _ := hc20m; obtain ⟨hfl, hfit⟩ := hX)
                  try (have hX := haw k (by omega); obtain ⟨hf0, hf1, ht0, ht1, hft, hw1, hw6⟩ := hX)
                  try have hfk := hfit k (by omega)
                  try have hb1 := flowOut_bd (m := l.length) hp1 haw hfit k (by omega) (gx l k).f.toNat (by omega)
                  try have hb2 := flowMid_bd (m := l.length) hp1 haw hfit k (by omega) (gx l k).t.toNat (by omega)
                  try have hbj := flowOut_bd (m := l.length) hp1 haw hfit l.length (by omega) j (by omega)
                  try have hnw := neg_wrap ha
                  refine kwp_region ?_
                  refine kops_d rfl rfl (opv_move rfl rfl) ?_
                  refine kops_d rfl rfl (opv_assign rfl rfl) ?_
                  refine kops_nil ?_
                  refine kn_then ?_
                  refine kwp_seq ?_
                  refine kwp_seq ?_
                  refine kwp_region ?_
                  refine kops_d rfl rfl (opv_move rfl rfl) ?_
                  refine kops_d rfl rfl (opv_move rfl rfl) ?_
                  refine kops_d rfl rfl (opv_cmp rfl rfl rfl rfl) ?_
                  refine kops_d rfl rfl (opv_move rfl rfl) ?_
                  refine kops_split 93 rfl (fun hb22 => ?_) (fun hb22 => ?_)
                  ·
                    first | have hb22n := kb_nt hb22 | have hb22n := kb_nf hb22 | have hb22n := hb22
                    first | have hb22m := of_decide_eq_true hb22n | have hb22m := of_decide_eq_false hb22n | have hb22m := kb_eq hb22n | have hb22m := kb_ne hb22n | have hb22m := kb_bne hb22n | have hb22m := kb_nbne hb22n | have hb22m := isIx_t hb22n | have hb22m := isIx_f hb22n | have hb22m := inR_t hb22n | have hb22m := inR_f hb22n | have hb22m := dec_tt hb22n | have hb22m := dec_ff hb22n | have hb22m := hb22n
                    try simp only [List.get_eq_getElem] at hb22n
                    try simp only [List.get_eq_getElem] at hb22m
                    try (have hX : MineOk _ _ := hb22m; obtain ⟨hp1, hp5, hl7, haw⟩ := hX)
                    try (have hX : FlowFits _ _ := hb22m; obtain ⟨hfl, hfit⟩ := hX)
                    try (have hX := haw k (by omega); obtain ⟨hf0, hf1, ht0, ht1, hft, hw1, hw6⟩ := hX)
                    try have hfk := hfit k (by omega)
                    try have hb1 := flowOut_bd (m := l.length) hp1 haw hfit k (by omega) (gx l k).f.toNat (by omega)
                    try have hb2 := flowMid_bd (m := l.length) hp1 haw hfit k (by omega) (gx l k).t.toNat (by omega)
                    try have hbj := flowOut_bd (m := l.length) hp1 haw hfit l.length (by omega) j (by omega)
                    try have hnw := neg_wrap ha
                    refine kops_gd rfl rfl rfl hb22 rfl (opv_move rfl rfl) ?_
                    refine kops_gd rfl rfl rfl hb22 rfl (opv_move rfl rfl) ?_
                    refine kops_gd rfl rfl rfl hb22 rfl (opv_cmp rfl rfl rfl rfl) ?_
                    refine kops_d rfl rfl (opv_pick_t rfl rfl rfl hb22) ?_
                    refine kops_nil ?_
                    refine kn_then ?_
                    refine kwp_cond rfl (fun hc24 => ?_) (fun hc24 => ?_)
                    ·
                      first | have hc24n := kb_nt hc24 | have hc24n := kb_nf hc24 | have hc24n := hc24
                      first | have hc24m := of_decide_eq_true hc24n | have hc24m := of_decide_eq_false hc24n | have hc24m := kb_eq hc24n | have hc24m := kb_ne hc24n | have hc24m := kb_bne hc24n | have hc24m := kb_nbne hc24n | have hc24m := isIx_t hc24n | have hc24m := isIx_f hc24n | have hc24m := inR_t hc24n | have hc24m := inR_f hc24n | have hc24m := dec_tt hc24n | have hc24m := dec_ff hc24n | have hc24m := hc24n
                      try simp only [List.get_eq_getElem] at hc24n
                      try simp only [List.get_eq_getElem] at hc24m
                      try (have hX : MineOk _ _ := hc24m; obtain ⟨hp1, hp5, hl7, haw⟩ := hX)
                      try (have hX : FlowFits _ _ := hc24m; obtain ⟨hfl, hfit⟩ := hX)
                      try (have hX := haw k (by omega); obtain ⟨hf0, hf1, ht0, ht1, hft, hw1, hw6⟩ := hX)
                      try have hfk := hfit k (by omega)
                      try have hb1 := flowOut_bd (m := l.length) hp1 haw hfit k (by omega) (gx l k).f.toNat (by omega)
                      try have hb2 := flowMid_bd (m := l.length) hp1 haw hfit k (by omega) (gx l k).t.toNat (by omega)
                      try have hbj := flowOut_bd (m := l.length) hp1 haw hfit l.length (by omega) j (by omega)
                      try have hnw := neg_wrap ha
                      refine kwp_region ?_
                      refine kops_d rfl rfl (opv_move rfl rfl) ?_
                      refine kops_d rfl rfl (by first | exact opv_neg' rfl rfl ⟨by omega, by omega⟩ | exact opv_neg rfl rfl) ?_
                      refine kops_d rfl rfl (opv_assign rfl rfl) ?_
                      refine kops_nil ?_
                      refine kn_then ?_
                      refine kwp_seq ?_
                      refine kwp_region ?_
                      refine kops_d rfl rfl (opv_move rfl rfl) ?_
                      refine kops_d rfl rfl (opv_move rfl rfl) ?_
                      refine kops_d rfl rfl (opv_cmp rfl rfl rfl rfl) ?_
                      refine kops_nil ?_
                      refine kn_then ?_
                      refine kwp_cond rfl (fun hc26 => ?_) (fun hc26 => ?_)
                      ·
                        first | have hc26n := kb_nt hc26 | have hc26n := kb_nf hc26 | have hc26n := hc26
                        first | have hc26m := of_decide_eq_true hc26n | have hc26m := of_decide_eq_false hc26n | have hc26m := kb_eq hc26n | have hc26m := kb_ne hc26n | have hc26m := kb_bne hc26n | have hc26m := kb_nbne hc26n | have hc26m := isIx_t hc26n | have hc26m := isIx_f hc26n | have hc26m := inR_t hc26n | have hc26m := inR_f hc26n | have hc26m := dec_tt hc26n | have hc26m := dec_ff hc26n | have hc26m := hc26n
                        try simp only [List.get_eq_getElem] at hc26n
                        try simp only [List.get_eq_getElem] at hc26m
                        try (have hX : MineOk _ _ := hc26m; obtain ⟨hp1, hp5, hl7, haw⟩ := hX)
                        try (have hX : FlowFits _ _ := hc26m; obtain ⟨hfl, hfit⟩ := hX)
                        try (have hX := haw k (by omega); obtain ⟨hf0, hf1, ht0, ht1, hft, hw1, hw6⟩ := hX)
                        try have hfk := hfit k (by omega)
                        try have hb1 := flowOut_bd (m := l.length) hp1 haw hfit k (by omega) (gx l k).f.toNat (by omega)
                        try have hb2 := flowMid_bd (m := l.length) hp1 haw hfit k (by omega) (gx l k).t.toNat (by omega)
                        try have hbj := flowOut_bd (m := l.length) hp1 haw hfit l.length (by omega) j (by omega)
                        try have hnw := neg_wrap ha
                        refine kwp_seq ?_
                        refine kwp_region ?_
                        refine kops_d rfl rfl (opv_assign rfl rfl) ?_
                        refine kops_nil ?_
                        refine kn_then ?_
                        refine kwp_ret ?_
                        refine kr_block ?_
                        refine kr_then ?_
                        refine kr_then ?_
                        refine kr_block ?_
                        refine kr_then ?_
                        refine kret1 [] rfl rfl ?_ (by (repeat (first | exact Sub.refl _ | exact Sub.nil _ | refine Sub.chunk (by repeat (first | exact Pick.here | apply Pick.there)) (by first | rfl | (simp; done) | (congr 1; omega)) ?_)))
                        first | exact ⟨vf (fun h => by first | exact absurd h.ok (by assumption) | exact absurd h.fit (by assumption) | (have h2 := h.i0; have h3 := h.i1; have h4 := h.o0; have h5 := h.o1; have h6 := h.fit.len; omega) | (have h6 := h.fit.fit k (by omega); omega)), rfl⟩ | exact ⟨vt ⟨⟨hp1, hp5, hl7, haw⟩, by omega, by omega, by omega, by omega, ⟨hfl, hfit⟩, fun v hv => hall v (by omega)⟩, rfl⟩ | exact ⟨vf (fun h => by have hw := h.all j (by omega); simp only [want] at hw; (repeat' split at hw) <;> omega), rfl⟩ 
                      ·
                        first | have hc26n := kb_nt hc26 | have hc26n := kb_nf hc26 | have hc26n := hc26
                        first | have hc26m := of_decide_eq_true hc26n | have hc26m := of_decide_eq_false hc26n | have hc26m := kb_eq hc26n | have hc26m := kb_ne hc26n | have hc26m := kb_bne hc26n | have hc26m := kb_nbne hc26n | have hc26m := isIx_t hc26n | have hc26m := isIx_f hc26n | have hc26m := inR_t hc26n | have hc26m := inR_f hc26n | have hc26m := dec_tt hc26n | have hc26m := dec_ff hc26n | have hc26m := hc26n
                        try simp only [List.get_eq_getElem] at hc26n
                        try simp only [List.get_eq_getElem] at hc26m
                        try (have hX : MineOk _ _ := hc26m; obtain ⟨hp1, hp5, hl7, haw⟩ := hX)
                        try (have hX : FlowFits _ _ := hc26m; obtain ⟨hfl, hfit⟩ := hX)
                        try (have hX := haw k (by omega); obtain ⟨hf0, hf1, ht0, ht1, hft, hw1, hw6⟩ := hX)
                        try have hfk := hfit k (by omega)
                        try have hb1 := flowOut_bd (m := l.length) hp1 haw hfit k (by omega) (gx l k).f.toNat (by omega)
                        try have hb2 := flowMid_bd (m := l.length) hp1 haw hfit k (by omega) (gx l k).t.toNat (by omega)
                        try have hbj := flowOut_bd (m := l.length) hp1 haw hfit l.length (by omega) j (by omega)
                        try have hnw := neg_wrap ha
                        refine kwp_skip ?_
                        refine kn_block ?_
                        refine kn_then ?_
                        refine kwp_region ?_
                        refine kops_d rfl rfl (by first | exact opv_add rfl rfl rfl ⟨by omega, by omega⟩ | exact opv_ari rfl rfl rfl rfl) ?_
                        refine kops_d rfl rfl (opv_move rfl rfl) ?_
                        refine kops_nil ?_
                        refine kn_then ?_
                        exact ⟨j + 1, ⟨by (exact ⟨by omega, upto hall (by simp only [want]; (repeat' split) <;> omega)⟩), by (repeat (first | exact Knows.nil _ | refine Knows.cons2 rfl (by first | rfl | (simp; done) | (congr 1; omega)) ?_)), by (repeat (first | exact Sub.refl _ | exact Sub.nil _ | refine Sub.chunk (by repeat (first | exact Pick.here | apply Pick.there)) (by first | rfl | (simp; done) | (congr 1; omega)) ?_))⟩, by omega⟩
                    ·
                      first | have hc24n := kb_nt hc24 | have hc24n := kb_nf hc24 | have hc24n := hc24
                      first | have hc24m := of_decide_eq_true hc24n | have hc24m := of_decide_eq_false hc24n | have hc24m := kb_eq hc24n | have hc24m := kb_ne hc24n | have hc24m := kb_bne hc24n | have hc24m := kb_nbne hc24n | have hc24m := isIx_t hc24n | have hc24m := isIx_f hc24n | have hc24m := inR_t hc24n | have hc24m := inR_f hc24n | have hc24m := dec_tt hc24n | have hc24m := dec_ff hc24n | have hc24m := hc24n
                      try simp only [List.get_eq_getElem] at hc24n
                      try simp only [List.get_eq_getElem] at hc24m
                      try (have hX : MineOk _ _ := hc24m; obtain ⟨hp1, hp5, hl7, haw⟩ := hX)
                      try (have hX : FlowFits _ _ := hc24m; obtain ⟨hfl, hfit⟩ := hX)
                      try (have hX := haw k (by omega); obtain ⟨hf0, hf1, ht0, ht1, hft, hw1, hw6⟩ := hX)
                      try have hfk := hfit k (by omega)
                      try have hb1 := flowOut_bd (m := l.length) hp1 haw hfit k (by omega) (gx l k).f.toNat (by omega)
                      try have hb2 := flowMid_bd (m := l.length) hp1 haw hfit k (by omega) (gx l k).t.toNat (by omega)
                      try have hbj := flowOut_bd (m := l.length) hp1 haw hfit l.length (by omega) j (by omega)
                      try have hnw := neg_wrap ha
                      refine kwp_skip ?_
                      refine kn_then ?_
                      refine kwp_seq ?_
                      refine kwp_region ?_
                      refine kops_d rfl rfl (opv_move rfl rfl) ?_
                      refine kops_d rfl rfl (opv_move rfl rfl) ?_
                      refine kops_d rfl rfl (opv_cmp rfl rfl rfl rfl) ?_
                      refine kops_nil ?_
                      refine kn_then ?_
                      refine kwp_cond rfl (fun hc28 => ?_) (fun hc28 => ?_)
                      ·
                        first | have hc28n := kb_nt hc28 | have hc28n := kb_nf hc28 | have hc28n := hc28
                        first | have hc28m := of_decide_eq_true hc28n | have hc28m := of_decide_eq_false hc28n | have hc28m := kb_eq hc28n | have hc28m := kb_ne hc28n | have hc28m := kb_bne hc28n | have hc28m := kb_nbne hc28n | have hc28m := isIx_t hc28n | have hc28m := isIx_f hc28n | have hc28m := inR_t hc28n | have hc28m := inR_f hc28n | have hc28m := dec_tt hc28n | have hc28m := dec_ff hc28n | have hc28m := hc28n
                        try simp only [List.get_eq_getElem] at hc28n
                        try simp only [List.get_eq_getElem] at hc28m
                        try (have hX : MineOk _ _ := hc28m; obtain ⟨hp1, hp5, hl7, haw⟩ := hX)
                        try (have hX : FlowFits _ _ := hc28m; obtain ⟨hfl, hfit⟩ := hX)
                        try (have hX := haw k (by omega); obtain ⟨hf0, hf1, ht0, ht1, hft, hw1, hw6⟩ := hX)
                        try have hfk := hfit k (by omega)
                        try have hb1 := flowOut_bd (m := l.length) hp1 haw hfit k (by omega) (gx l k).f.toNat (by omega)
                        try have hb2 := flowMid_bd (m := l.length) hp1 haw hfit k (by omega) (gx l k).t.toNat (by omega)
                        try have hbj := flowOut_bd (m := l.length) hp1 haw hfit l.length (by omega) j (by omega)
                        try have hnw := neg_wrap ha
                        refine kwp_seq ?_
                        refine kwp_region ?_
                        refine kops_d rfl rfl (opv_assign rfl rfl) ?_
                        refine kops_nil ?_
                        refine kn_then ?_
                        refine kwp_ret ?_
                        refine kr_block ?_
                        refine kr_then ?_
                        refine kr_then ?_
                        refine kr_block ?_
                        refine kr_then ?_
                        refine kret1 [] rfl rfl ?_ (by (repeat (first | exact Sub.refl _ | exact Sub.nil _ | refine Sub.chunk (by repeat (first | exact Pick.here | apply Pick.there)) (by first | rfl | (simp; done) | (congr 1; omega)) ?_)))
                        first | exact ⟨vf (fun h => by first | exact absurd h.ok (by assumption) | exact absurd h.fit (by assumption) | (have h2 := h.i0; have h3 := h.i1; have h4 := h.o0; have h5 := h.o1; have h6 := h.fit.len; omega) | (have h6 := h.fit.fit k (by omega); omega)), rfl⟩ | exact ⟨vt ⟨⟨hp1, hp5, hl7, haw⟩, by omega, by omega, by omega, by omega, ⟨hfl, hfit⟩, fun v hv => hall v (by omega)⟩, rfl⟩ | exact ⟨vf (fun h => by have hw := h.all j (by omega); simp only [want] at hw; (repeat' split at hw) <;> omega), rfl⟩ 
                      ·
                        first | have hc28n := kb_nt hc28 | have hc28n := kb_nf hc28 | have hc28n := hc28
                        first | have hc28m := of_decide_eq_true hc28n | have hc28m := of_decide_eq_false hc28n | have hc28m := kb_eq hc28n | have hc28m := kb_ne hc28n | have hc28m := kb_bne hc28n | have hc28m := kb_nbne hc28n | have hc28m := isIx_t hc28n | have hc28m := isIx_f hc28n | have hc28m := inR_t hc28n | have hc28m := inR_f hc28n | have hc28m := dec_tt hc28n | have hc28m := dec_ff hc28n | have hc28m := hc28n
                        try simp only [List.get_eq_getElem] at hc28n
                        try simp only [List.get_eq_getElem] at hc28m
                        try (have hX : MineOk _ _ := hc28m; obtain ⟨hp1, hp5, hl7, haw⟩ := hX)
                        try (have hX : FlowFits _ _ := hc28m; obtain ⟨hfl, hfit⟩ := hX)
                        try (have hX := haw k (by omega); obtain ⟨hf0, hf1, ht0, ht1, hft, hw1, hw6⟩ := hX)
                        try have hfk := hfit k (by omega)
                        try have hb1 := flowOut_bd (m := l.length) hp1 haw hfit k (by omega) (gx l k).f.toNat (by omega)
                        try have hb2 := flowMid_bd (m := l.length) hp1 haw hfit k (by omega) (gx l k).t.toNat (by omega)
                        try have hbj := flowOut_bd (m := l.length) hp1 haw hfit l.length (by omega) j (by omega)
                        try have hnw := neg_wrap ha
                        refine kwp_skip ?_
                        refine kn_block ?_
                        refine kn_then ?_
                        refine kwp_region ?_
                        refine kops_d rfl rfl (by first | exact opv_add rfl rfl rfl ⟨by omega, by omega⟩ | exact opv_ari rfl rfl rfl rfl) ?_
                        refine kops_d rfl rfl (opv_move rfl rfl) ?_
                        refine kops_nil ?_
                        refine kn_then ?_
                        exact ⟨j + 1, ⟨by (exact ⟨by omega, upto hall (by simp only [want]; (repeat' split) <;> omega)⟩), by (repeat (first | exact Knows.nil _ | refine Knows.cons2 rfl (by first | rfl | (simp; done) | (congr 1; omega)) ?_)), by (repeat (first | exact Sub.refl _ | exact Sub.nil _ | refine Sub.chunk (by repeat (first | exact Pick.here | apply Pick.there)) (by first | rfl | (simp; done) | (congr 1; omega)) ?_))⟩, by omega⟩
                  ·
                    first | have hb22n := kb_nt hb22 | have hb22n := kb_nf hb22 | have hb22n := hb22
                    first | have hb22m := of_decide_eq_true hb22n | have hb22m := of_decide_eq_false hb22n | have hb22m := kb_eq hb22n | have hb22m := kb_ne hb22n | have hb22m := kb_bne hb22n | have hb22m := kb_nbne hb22n | have hb22m := isIx_t hb22n | have hb22m := isIx_f hb22n | have hb22m := inR_t hb22n | have hb22m := inR_f hb22n | have hb22m := dec_tt hb22n | have hb22m := dec_ff hb22n | have hb22m := hb22n
                    try simp only [List.get_eq_getElem] at hb22n
                    try simp only [List.get_eq_getElem] at hb22m
                    try (have hX : MineOk _ _ := hb22m; obtain ⟨hp1, hp5, hl7, haw⟩ := hX)
                    try (have hX : FlowFits _ _ := hb22m; obtain ⟨hfl, hfit⟩ := hX)
                    try (have hX := haw k (by omega); obtain ⟨hf0, hf1, ht0, ht1, hft, hw1, hw6⟩ := hX)
                    try have hfk := hfit k (by omega)
                    try have hb1 := flowOut_bd (m := l.length) hp1 haw hfit k (by omega) (gx l k).f.toNat (by omega)
                    try have hb2 := flowMid_bd (m := l.length) hp1 haw hfit k (by omega) (gx l k).t.toNat (by omega)
                    try have hbj := flowOut_bd (m := l.length) hp1 haw hfit l.length (by omega) j (by omega)
                    try have hnw := neg_wrap ha
                    refine kops_skip rfl rfl rfl hb22 ?_
                    refine kops_skip rfl rfl rfl hb22 ?_
                    refine kops_skip rfl rfl rfl hb22 ?_
                    refine kops_d rfl rfl (opv_pick_f rfl rfl rfl hb22) ?_
                    refine kops_nil ?_
                    refine kn_then ?_
                    refine kwp_cond_f rfl rfl ?_
                    refine kwp_skip ?_
                    refine kn_then ?_
                    refine kwp_seq ?_
                    refine kwp_region ?_
                    refine kops_d rfl rfl (opv_move rfl rfl) ?_
                    refine kops_d rfl rfl (opv_move rfl rfl) ?_
                    refine kops_d rfl rfl (opv_cmp rfl rfl rfl rfl) ?_
                    refine kops_nil ?_
                    refine kn_then ?_
                    refine kwp_cond rfl (fun hc30 => ?_) (fun hc30 => ?_)
                    ·
                      first | have hc30n := kb_nt hc30 | have hc30n := kb_nf hc30 | have hc30n := hc30
                      first | have hc30m := of_decide_eq_true hc30n | have hc30m := of_decide_eq_false hc30n | have hc30m := kb_eq hc30n | have hc30m := kb_ne hc30n | have hc30m := kb_bne hc30n | have hc30m := kb_nbne hc30n | have hc30m := isIx_t hc30n | have hc30m := isIx_f hc30n | have hc30m := inR_t hc30n | have hc30m := inR_f hc30n | have hc30m := dec_tt hc30n | have hc30m := dec_ff hc30n | have hc30m := hc30n
                      try simp only [List.get_eq_getElem] at hc30n
                      try simp only [List.get_eq_getElem] at hc30m
                      try (have hX : MineOk _ _ := hc30m; obtain ⟨hp1, hp5, hl7, haw⟩ := hX)
                      try (have hX : FlowFits _ _ := hc30m; obtain ⟨hfl, hfit⟩ := hX)
                      try (have hX := haw k (by omega); obtain ⟨hf0, hf1, ht0, ht1, hft, hw1, hw6⟩ := hX)
                      try have hfk := hfit k (by omega)
                      try have hb1 := flowOut_bd (m := l.length) hp1 haw hfit k (by omega) (gx l k).f.toNat (by omega)
                      try have hb2 := flowMid_bd (m := l.length) hp1 haw hfit k (by omega) (gx l k).t.toNat (by omega)
                      try have hbj := flowOut_bd (m := l.length) hp1 haw hfit l.length (by omega) j (by omega)
                      try have hnw := neg_wrap ha
                      refine kwp_seq ?_
                      refine kwp_region ?_
                      refine kops_d rfl rfl (opv_assign rfl rfl) ?_
                      refine kops_nil ?_
                      refine kn_then ?_
                      refine kwp_ret ?_
                      refine kr_block ?_
                      refine kr_then ?_
                      refine kr_then ?_
                      refine kr_block ?_
                      refine kr_then ?_
                      refine kret1 [] rfl rfl ?_ (by (repeat (first | exact Sub.refl _ | exact Sub.nil _ | refine Sub.chunk (by repeat (first | exact Pick.here | apply Pick.there)) (by first | rfl | (simp; done) | (congr 1; omega)) ?_)))
                      first | exact ⟨vf (fun h => by first | exact absurd h.ok (by assumption) | exact absurd h.fit (by assumption) | (have h2 := h.i0; have h3 := h.i1; have h4 := h.o0; have h5 := h.o1; have h6 := h.fit.len; omega) | (have h6 := h.fit.fit k (by omega); omega)), rfl⟩ | exact ⟨vt ⟨⟨hp1, hp5, hl7, haw⟩, by omega, by omega, by omega, by omega, ⟨hfl, hfit⟩, fun v hv => hall v (by omega)⟩, rfl⟩ | exact ⟨vf (fun h => by have hw := h.all j (by omega); simp only [want] at hw; (repeat' split at hw) <;> omega), rfl⟩ 
                    ·
                      first | have hc30n := kb_nt hc30 | have hc30n := kb_nf hc30 | have hc30n := hc30
                      first | have hc30m := of_decide_eq_true hc30n | have hc30m := of_decide_eq_false hc30n | have hc30m := kb_eq hc30n | have hc30m := kb_ne hc30n | have hc30m := kb_bne hc30n | have hc30m := kb_nbne hc30n | have hc30m := isIx_t hc30n | have hc30m := isIx_f hc30n | have hc30m := inR_t hc30n | have hc30m := inR_f hc30n | have hc30m := dec_tt hc30n | have hc30m := dec_ff hc30n | have hc30m := hc30n
                      try simp only [List.get_eq_getElem] at hc30n
                      try simp only [List.get_eq_getElem] at hc30m
                      try (have hX : MineOk _ _ := hc30m; obtain ⟨hp1, hp5, hl7, haw⟩ := hX)
                      try (have hX : FlowFits _ _ := hc30m; obtain ⟨hfl, hfit⟩ := hX)
                      try (have hX := haw k (by omega); obtain ⟨hf0, hf1, ht0, ht1, hft, hw1, hw6⟩ := hX)
                      try have hfk := hfit k (by omega)
                      try have hb1 := flowOut_bd (m := l.length) hp1 haw hfit k (by omega) (gx l k).f.toNat (by omega)
                      try have hb2 := flowMid_bd (m := l.length) hp1 haw hfit k (by omega) (gx l k).t.toNat (by omega)
                      try have hbj := flowOut_bd (m := l.length) hp1 haw hfit l.length (by omega) j (by omega)
                      try have hnw := neg_wrap ha
                      refine kwp_skip ?_
                      refine kn_block ?_
                      refine kn_then ?_
                      refine kwp_region ?_
                      refine kops_d rfl rfl (by first | exact opv_add rfl rfl rfl ⟨by omega, by omega⟩ | exact opv_ari rfl rfl rfl rfl) ?_
                      refine kops_d rfl rfl (opv_move rfl rfl) ?_
                      refine kops_nil ?_
                      refine kn_then ?_
                      exact ⟨j + 1, ⟨by (exact ⟨by omega, upto hall (by simp only [want]; (repeat' split) <;> omega)⟩), by (repeat (first | exact Knows.nil _ | refine Knows.cons2 rfl (by first | rfl | (simp; done) | (congr 1; omega)) ?_)), by (repeat (first | exact Sub.refl _ | exact Sub.nil _ | refine Sub.chunk (by repeat (first | exact Pick.here | apply Pick.there)) (by first | rfl | (simp; done) | (congr 1; omega)) ?_))⟩, by omega⟩
                ·
                  first | have hc20n := kb_nt hc20 | have hc20n := kb_nf hc20 | have hc20n := hc20
                  first | have hc20m := of_decide_eq_true hc20n | have hc20m := of_decide_eq_false hc20n | have hc20m := kb_eq hc20n | have hc20m := kb_ne hc20n | have hc20m := kb_bne hc20n | have hc20m := kb_nbne hc20n | have hc20m := isIx_t hc20n | have hc20m := isIx_f hc20n | have hc20m := inR_t hc20n | have hc20m := inR_f hc20n | have hc20m := dec_tt hc20n | have hc20m := dec_ff hc20n | have hc20m := hc20n
                  try simp only [List.get_eq_getElem] at hc20n
                  try simp only [List.get_eq_getElem] at hc20m
                  try (have hX : MineOk _ _ := hc20m; obtain ⟨hp1, hp5, hl7, haw⟩ := hX)
                  try (have hX : FlowFits _ _ := hc20m; obtain ⟨hfl, hfit⟩ := hX)
                  try (have hX := haw k (by omega); obtain ⟨hf0, hf1, ht0, ht1, hft, hw1, hw6⟩ := hX)
                  try have hfk := hfit k (by omega)
                  try have hb1 := flowOut_bd (m := l.length) hp1 haw hfit k (by omega) (gx l k).f.toNat (by omega)
                  try have hb2 := flowMid_bd (m := l.length) hp1 haw hfit k (by omega) (gx l k).t.toNat (by omega)
                  try have hbj := flowOut_bd (m := l.length) hp1 haw hfit l.length (by omega) j (by omega)
                  try have hnw := neg_wrap ha
                  refine kwp_skip ?_
                  refine kn_then ?_
                  refine kwp_seq ?_
                  refine kwp_seq ?_
                  refine kwp_region ?_
                  refine kops_d rfl rfl (opv_move rfl rfl) ?_
                  refine kops_d rfl rfl (opv_move rfl rfl) ?_
                  refine kops_d rfl rfl (opv_cmp rfl rfl rfl rfl) ?_
                  refine kops_d rfl rfl (opv_move rfl rfl) ?_
                  refine kops_split 93 rfl (fun hb32 => ?_) (fun hb32 => ?_)
                  ·
                    first | have hb32n := kb_nt hb32 | have hb32n := kb_nf hb32 | have hb32n := hb32
                    first | have hb32m := of_decide_eq_true hb32n | have hb32m := of_decide_eq_false hb32n | have hb32m := kb_eq hb32n | have hb32m := kb_ne hb32n | have hb32m := kb_bne hb32n | have hb32m := kb_nbne hb32n | have hb32m := isIx_t hb32n | have hb32m := isIx_f hb32n | have hb32m := inR_t hb32n | have hb32m := inR_f hb32n | have hb32m := dec_tt hb32n | have hb32m := dec_ff hb32n | have hb32m := hb32n
                    try simp only [List.get_eq_getElem] at hb32n
                    try simp only [List.get_eq_getElem] at hb32m
                    try (have hX : MineOk _ _ := hb32m; obtain ⟨hp1, hp5, hl7, haw⟩ := hX)
                    try (have hX : FlowFits _ _ := hb32m; obtain ⟨hfl, hfit⟩ := hX)
                    try (have hX := haw k (by omega); obtain ⟨hf0, hf1, ht0, ht1, hft, hw1, hw6⟩ := hX)
                    try have hfk := hfit k (by omega)
                    try have hb1 := flowOut_bd (m := l.length) hp1 haw hfit k (by omega) (gx l k).f.toNat (by omega)
                    try have hb2 := flowMid_bd (m := l.length) hp1 haw hfit k (by omega) (gx l k).t.toNat (by omega)
                    try have hbj := flowOut_bd (m := l.length) hp1 haw hfit l.length (by omega) j (by omega)
                    try have hnw := neg_wrap ha
                    refine kops_gd rfl rfl rfl hb32 rfl (opv_move rfl rfl) ?_
                    refine kops_gd rfl rfl rfl hb32 rfl (opv_move rfl rfl) ?_
                    refine kops_gd rfl rfl rfl hb32 rfl (opv_cmp rfl rfl rfl rfl) ?_
                    refine kops_d rfl rfl (opv_pick_t rfl rfl rfl hb32) ?_
                    refine kops_nil ?_
                    refine kn_then ?_
                    refine kwp_cond rfl (fun hc34 => ?_) (fun hc34 => ?_)
                    ·
                      first | have hc34n := kb_nt hc34 | have hc34n := kb_nf hc34 | have hc34n := hc34
                      first | have hc34m := of_decide_eq_true hc34n | have hc34m := of_decide_eq_false hc34n | have hc34m := kb_eq hc34n | have hc34m := kb_ne hc34n | have hc34m := kb_bne hc34n | have hc34m := kb_nbne hc34n | have hc34m := isIx_t hc34n | have hc34m := isIx_f hc34n | have hc34m := inR_t hc34n | have hc34m := inR_f hc34n | have hc34m := dec_tt hc34n | have hc34m := dec_ff hc34n | have hc34m := hc34n
                      try simp only [List.get_eq_getElem] at hc34n
                      try simp only [List.get_eq_getElem] at hc34m
                      try (have hX : MineOk _ _ := hc34m; obtain ⟨hp1, hp5, hl7, haw⟩ := hX)
                      try (have hX : FlowFits _ _ := hc34m; obtain ⟨hfl, hfit⟩ := hX)
                      try (have hX := haw k (by omega); obtain ⟨hf0, hf1, ht0, ht1, hft, hw1, hw6⟩ := hX)
                      try have hfk := hfit k (by omega)
                      try have hb1 := flowOut_bd (m := l.length) hp1 haw hfit k (by omega) (gx l k).f.toNat (by omega)
                      try have hb2 := flowMid_bd (m := l.length) hp1 haw hfit k (by omega) (gx l k).t.toNat (by omega)
                      try have hbj := flowOut_bd (m := l.length) hp1 haw hfit l.length (by omega) j (by omega)
                      try have hnw := neg_wrap ha
                      refine kwp_region ?_
                      refine kops_d rfl rfl (opv_move rfl rfl) ?_
                      refine kops_d rfl rfl (by first | exact opv_neg' rfl rfl ⟨by omega, by omega⟩ | exact opv_neg rfl rfl) ?_
                      refine kops_d rfl rfl (opv_assign rfl rfl) ?_
                      refine kops_nil ?_
                      refine kn_then ?_
                      refine kwp_seq ?_
                      refine kwp_region ?_
                      refine kops_d rfl rfl (opv_move rfl rfl) ?_
                      refine kops_d rfl rfl (opv_move rfl rfl) ?_
                      refine kops_d rfl rfl (opv_cmp rfl rfl rfl rfl) ?_
                      refine kops_nil ?_
                      refine kn_then ?_
                      refine kwp_cond rfl (fun hc36 => ?_) (fun hc36 => ?_)
                      ·
                        first | have hc36n := kb_nt hc36 | have hc36n := kb_nf hc36 | have hc36n := hc36
                        first | have hc36m := of_decide_eq_true hc36n | have hc36m := of_decide_eq_false hc36n | have hc36m := kb_eq hc36n | have hc36m := kb_ne hc36n | have hc36m := kb_bne hc36n | have hc36m := kb_nbne hc36n | have hc36m := isIx_t hc36n | have hc36m := isIx_f hc36n | have hc36m := inR_t hc36n | have hc36m := inR_f hc36n | have hc36m := dec_tt hc36n | have hc36m := dec_ff hc36n | have hc36m := hc36n
                        try simp only [List.get_eq_getElem] at hc36n
                        try simp only [List.get_eq_getElem] at hc36m
                        try (have hX : MineOk _ _ := hc36m; obtain ⟨hp1, hp5, hl7, haw⟩ := hX)
                        try (have hX : FlowFits _ _ := hc36m; obtain ⟨hfl, hfit⟩ := hX)
                        try (have hX := haw k (by omega); obtain ⟨hf0, hf1, ht0, ht1, hft, hw1, hw6⟩ := hX)
                        try have hfk := hfit k (by omega)
                        try have hb1 := flowOut_bd (m := l.length) hp1 haw hfit k (by omega) (gx l k).f.toNat (by omega)
                        try have hb2 := flowMid_bd (m := l.length) hp1 haw hfit k (by omega) (gx l k).t.toNat (by omega)
                        try have hbj := flowOut_bd (m := l.length) hp1 haw hfit l.length (by omega) j (by omega)
                        try have hnw := neg_wrap ha
                        refine kwp_seq ?_
                        refine kwp_region ?_
                        refine kops_d rfl rfl (opv_assign rfl rfl) ?_
                        refine kops_nil ?_
                        refine kn_then ?_
                        refine kwp_ret ?_
                        refine kr_block ?_
                        refine kr_then ?_
                        refine kr_then ?_
                        refine kr_block ?_
                        refine kr_then ?_
                        refine kret1 [] rfl rfl ?_ (by (repeat (first | exact Sub.refl _ | exact Sub.nil _ | refine Sub.chunk (by repeat (first | exact Pick.here | apply Pick.there)) (by first | rfl | (simp; done) | (congr 1; omega)) ?_)))
                        first | exact ⟨vf (fun h => by first | exact absurd h.ok (by assumption) | exact absurd h.fit (by assumption) | (have h2 := h.i0; have h3 := h.i1; have h4 := h.o0; have h5 := h.o1; have h6 := h.fit.len; omega) | (have h6 := h.fit.fit k (by omega); omega)), rfl⟩ | exact ⟨vt ⟨⟨hp1, hp5, hl7, haw⟩, by omega, by omega, by omega, by omega, ⟨hfl, hfit⟩, fun v hv => hall v (by omega)⟩, rfl⟩ | exact ⟨vf (fun h => by have hw := h.all j (by omega); simp only [want] at hw; (repeat' split at hw) <;> omega), rfl⟩ 
                      ·
                        first | have hc36n := kb_nt hc36 | have hc36n := kb_nf hc36 | have hc36n := hc36
                        first | have hc36m := of_decide_eq_true hc36n | have hc36m := of_decide_eq_false hc36n | have hc36m := kb_eq hc36n | have hc36m := kb_ne hc36n | have hc36m := kb_bne hc36n | have hc36m := kb_nbne hc36n | have hc36m := isIx_t hc36n | have hc36m := isIx_f hc36n | have hc36m := inR_t hc36n | have hc36m := inR_f hc36n | have hc36m := dec_tt hc36n | have hc36m := dec_ff hc36n | have hc36m := hc36n
                        try simp only [List.get_eq_getElem] at hc36n
                        try simp only [List.get_eq_getElem] at hc36m
                        try (have hX : MineOk _ _ := hc36m; obtain ⟨hp1, hp5, hl7, haw⟩ := hX)
                        try (have hX : FlowFits _ _ := hc36m; obtain ⟨hfl, hfit⟩ := hX)
                        try (have hX := haw k (by omega); obtain ⟨hf0, hf1, ht0, ht1, hft, hw1, hw6⟩ := hX)
                        try have hfk := hfit k (by omega)
                        try have hb1 := flowOut_bd (m := l.length) hp1 haw hfit k (by omega) (gx l k).f.toNat (by omega)
                        try have hb2 := flowMid_bd (m := l.length) hp1 haw hfit k (by omega) (gx l k).t.toNat (by omega)
                        try have hbj := flowOut_bd (m := l.length) hp1 haw hfit l.length (by omega) j (by omega)
                        try have hnw := neg_wrap ha
                        refine kwp_skip ?_
                        refine kn_block ?_
                        refine kn_then ?_
                        refine kwp_region ?_
                        refine kops_d rfl rfl (by first | exact opv_add rfl rfl rfl ⟨by omega, by omega⟩ | exact opv_ari rfl rfl rfl rfl) ?_
                        refine kops_d rfl rfl (opv_move rfl rfl) ?_
                        refine kops_nil ?_
                        refine kn_then ?_
                        exact ⟨j + 1, ⟨by (exact ⟨by omega, upto hall (by simp only [want]; (repeat' split) <;> omega)⟩), by (repeat (first | exact Knows.nil _ | refine Knows.cons2 rfl (by first | rfl | (simp; done) | (congr 1; omega)) ?_)), by (repeat (first | exact Sub.refl _ | exact Sub.nil _ | refine Sub.chunk (by repeat (first | exact Pick.here | apply Pick.there)) (by first | rfl | (simp; done) | (congr 1; omega)) ?_))⟩, by omega⟩
                    ·
                      first | have hc34n := kb_nt hc34 | have hc34n := kb_nf hc34 | have hc34n := hc34
                      first | have hc34m := of_decide_eq_true hc34n | have hc34m := of_decide_eq_false hc34n | have hc34m := kb_eq hc34n | have hc34m := kb_ne hc34n | have hc34m := kb_bne hc34n | have hc34m := kb_nbne hc34n | have hc34m := isIx_t hc34n | have hc34m := isIx_f hc34n | have hc34m := inR_t hc34n | have hc34m := inR_f hc34n | have hc34m := dec_tt hc34n | have hc34m := dec_ff hc34n | have hc34m := hc34n
                      try simp only [List.get_eq_getElem] at hc34n
                      try simp only [List.get_eq_getElem] at hc34m
                      try (have hX : MineOk _ _ := hc34m; obtain ⟨hp1, hp5, hl7, haw⟩ := hX)
                      try (have hX : FlowFits _ _ := hc34m; obtain ⟨hfl, hfit⟩ := hX)
                      try (have hX := haw k (by omega); obtain ⟨hf0, hf1, ht0, ht1, hft, hw1, hw6⟩ := hX)
                      try have hfk := hfit k (by omega)
                      try have hb1 := flowOut_bd (m := l.length) hp1 haw hfit k (by omega) (gx l k).f.toNat (by omega)
                      try have hb2 := flowMid_bd (m := l.length) hp1 haw hfit k (by omega) (gx l k).t.toNat (by omega)
                      try have hbj := flowOut_bd (m := l.length) hp1 haw hfit l.length (by omega) j (by omega)
                      try have hnw := neg_wrap ha
                      refine kwp_skip ?_
                      refine kn_then ?_
                      refine kwp_seq ?_
                      refine kwp_region ?_
                      refine kops_d rfl rfl (opv_move rfl rfl) ?_
                      refine kops_d rfl rfl (opv_move rfl rfl) ?_
                      refine kops_d rfl rfl (opv_cmp rfl rfl rfl rfl) ?_
                      refine kops_nil ?_
                      refine kn_then ?_
                      refine kwp_cond rfl (fun hc38 => ?_) (fun hc38 => ?_)
                      ·
                        first | have hc38n := kb_nt hc38 | have hc38n := kb_nf hc38 | have hc38n := hc38
                        first | have hc38m := of_decide_eq_true hc38n | have hc38m := of_decide_eq_false hc38n | have hc38m := kb_eq hc38n | have hc38m := kb_ne hc38n | have hc38m := kb_bne hc38n | have hc38m := kb_nbne hc38n | have hc38m := isIx_t hc38n | have hc38m := isIx_f hc38n | have hc38m := inR_t hc38n | have hc38m := inR_f hc38n | have hc38m := dec_tt hc38n | have hc38m := dec_ff hc38n | have hc38m := hc38n
                        try simp only [List.get_eq_getElem] at hc38n
                        try simp only [List.get_eq_getElem] at hc38m
                        try (have hX : MineOk _ _ := hc38m; obtain ⟨hp1, hp5, hl7, haw⟩ := hX)
                        try (have hX : FlowFits _ _ := hc38m; obtain ⟨hfl, hfit⟩ := hX)
                        try (have hX := haw k (by omega); obtain ⟨hf0, hf1, ht0, ht1, hft, hw1, hw6⟩ := hX)
                        try have hfk := hfit k (by omega)
                        try have hb1 := flowOut_bd (m := l.length) hp1 haw hfit k (by omega) (gx l k).f.toNat (by omega)
                        try have hb2 := flowMid_bd (m := l.length) hp1 haw hfit k (by omega) (gx l k).t.toNat (by omega)
                        try have hbj := flowOut_bd (m := l.length) hp1 haw hfit l.length (by omega) j (by omega)
                        try have hnw := neg_wrap ha
                        refine kwp_seq ?_
                        refine kwp_region ?_
                        refine kops_d rfl rfl (opv_assign rfl rfl) ?_
                        refine kops_nil ?_
                        refine kn_then ?_
                        refine kwp_ret ?_
                        refine kr_block ?_
                        refine kr_then ?_
                        refine kr_then ?_
                        refine kr_block ?_
                        refine kr_then ?_
                        refine kret1 [] rfl rfl ?_ (by (repeat (first | exact Sub.refl _ | exact Sub.nil _ | refine Sub.chunk (by repeat (first | exact Pick.here | apply Pick.there)) (by first | rfl | (simp; done) | (congr 1; omega)) ?_)))
                        first | exact ⟨vf (fun h => by first | exact absurd h.ok (by assumption) | exact absurd h.fit (by assumption) | (have h2 := h.i0; have h3 := h.i1; have h4 := h.o0; have h5 := h.o1; have h6 := h.fit.len; omega) | (have h6 := h.fit.fit k (by omega); omega)), rfl⟩ | exact ⟨vt ⟨⟨hp1, hp5, hl7, haw⟩, by omega, by omega, by omega, by omega, ⟨hfl, hfit⟩, fun v hv => hall v (by omega)⟩, rfl⟩ | exact ⟨vf (fun h => by have hw := h.all j (by omega); simp only [want] at hw; (repeat' split at hw) <;> omega), rfl⟩ 
                      ·
                        first | have hc38n := kb_nt hc38 | have hc38n := kb_nf hc38 | have hc38n := hc38
                        first | have hc38m := of_decide_eq_true hc38n | have hc38m := of_decide_eq_false hc38n | have hc38m := kb_eq hc38n | have hc38m := kb_ne hc38n | have hc38m := kb_bne hc38n | have hc38m := kb_nbne hc38n | have hc38m := isIx_t hc38n | have hc38m := isIx_f hc38n | have hc38m := inR_t hc38n | have hc38m := inR_f hc38n | have hc38m := dec_tt hc38n | have hc38m := dec_ff hc38n | have hc38m := hc38n
                        try simp only [List.get_eq_getElem] at hc38n
                        try simp only [List.get_eq_getElem] at hc38m
                        try (have hX : MineOk _ _ := hc38m; obtain ⟨hp1, hp5, hl7, haw⟩ := hX)
                        try (have hX : FlowFits _ _ := hc38m; obtain ⟨hfl, hfit⟩ := hX)
                        try (have hX := haw k (by omega); obtain ⟨hf0, hf1, ht0, ht1, hft, hw1, hw6⟩ := hX)
                        try have hfk := hfit k (by omega)
                        try have hb1 := flowOut_bd (m := l.length) hp1 haw hfit k (by omega) (gx l k).f.toNat (by omega)
                        try have hb2 := flowMid_bd (m := l.length) hp1 haw hfit k (by omega) (gx l k).t.toNat (by omega)
                        try have hbj := flowOut_bd (m := l.length) hp1 haw hfit l.length (by omega) j (by omega)
                        try have hnw := neg_wrap ha
                        refine kwp_skip ?_
                        refine kn_block ?_
                        refine kn_then ?_
                        refine kwp_region ?_
                        refine kops_d rfl rfl (by first | exact opv_add rfl rfl rfl ⟨by omega, by omega⟩ | exact opv_ari rfl rfl rfl rfl) ?_
                        refine kops_d rfl rfl (opv_move rfl rfl) ?_
                        refine kops_nil ?_
                        refine kn_then ?_
                        exact ⟨j + 1, ⟨by (exact ⟨by omega, upto hall (by simp only [want]; (repeat' split) <;> omega)⟩), by (repeat (first | exact Knows.nil _ | refine Knows.cons2 rfl (by first | rfl | (simp; done) | (congr 1; omega)) ?_)), by (repeat (first | exact Sub.refl _ | exact Sub.nil _ | refine Sub.chunk (by repeat (first | exact Pick.here | apply Pick.there)) (by first | rfl | (simp; done) | (congr 1; omega)) ?_))⟩, by omega⟩
                  ·
                    first | have hb32n := kb_nt hb32 | have hb32n := kb_nf hb32 | have hb32n := hb32
                    first | have hb32m := of_decide_eq_true hb32n | have hb32m := of_decide_eq_false hb32n | have hb32m := kb_eq hb32n | have hb32m := kb_ne hb32n | have hb32m := kb_bne hb32n | have hb32m := kb_nbne hb32n | have hb32m := isIx_t hb32n | have hb32m := isIx_f hb32n | have hb32m := inR_t hb32n | have hb32m := inR_f hb32n | have hb32m := dec_tt hb32n | have hb32m := dec_ff hb32n | have hb32m := hb32n
                    try simp only [List.get_eq_getElem] at hb32n
                    try simp only [List.get_eq_getElem] at hb32m
                    try (have hX : MineOk _ _ := hb32m; obtain ⟨hp1, hp5, hl7, haw⟩ := hX)
                    try (have hX : FlowFits _ _ := hb32m; obtain ⟨hfl, hfit⟩ := hX)
                    try (have hX := haw k (by omega); obtain ⟨hf0, hf1, ht0, ht1, hft, hw1, hw6⟩ := hX)
                    try have hfk := hfit k (by omega)
                    try have hb1 := flowOut_bd (m := l.length) hp1 haw hfit k (by omega) (gx l k).f.toNat (by omega)
                    try have hb2 := flowMid_bd (m := l.length) hp1 haw hfit k (by omega) (gx l k).t.toNat (by omega)
                    try have hbj := flowOut_bd (m := l.length) hp1 haw hfit l.length (by omega) j (by omega)
                    try have hnw := neg_wrap ha
                    refine kops_skip rfl rfl rfl hb32 ?_
                    refine kops_skip rfl rfl rfl hb32 ?_
                    refine kops_skip rfl rfl rfl hb32 ?_
                    refine kops_d rfl rfl (opv_pick_f rfl rfl rfl hb32) ?_
                    refine kops_nil ?_
                    refine kn_then ?_
                    refine kwp_cond_f rfl rfl ?_
                    refine kwp_skip ?_
                    refine kn_then ?_
                    refine kwp_seq ?_
                    refine kwp_region ?_
                    refine kops_d rfl rfl (opv_move rfl rfl) ?_
                    refine kops_d rfl rfl (opv_move rfl rfl) ?_
                    refine kops_d rfl rfl (opv_cmp rfl rfl rfl rfl) ?_
                    refine kops_nil ?_
                    refine kn_then ?_
                    refine kwp_cond rfl (fun hc40 => ?_) (fun hc40 => ?_)
                    ·
                      first | have hc40n := kb_nt hc40 | have hc40n := kb_nf hc40 | have hc40n := hc40
                      first | have hc40m := of_decide_eq_true hc40n | have hc40m := of_decide_eq_false hc40n | have hc40m := kb_eq hc40n | have hc40m := kb_ne hc40n | have hc40m := kb_bne hc40n | have hc40m := kb_nbne hc40n | have hc40m := isIx_t hc40n | have hc40m := isIx_f hc40n | have hc40m := inR_t hc40n | have hc40m := inR_f hc40n | have hc40m := dec_tt hc40n | have hc40m := dec_ff hc40n | have hc40m := hc40n
                      try simp only [List.get_eq_getElem] at hc40n
                      try simp only [List.get_eq_getElem] at hc40m
                      try (have hX : MineOk _ _ := hc40m; obtain ⟨hp1, hp5, hl7, haw⟩ := hX)
                      try (have hX : FlowFits _ _ := hc40m; obtain ⟨hfl, hfit⟩ := hX)
                      try (have hX := haw k (by omega); obtain ⟨hf0, hf1, ht0, ht1, hft, hw1, hw6⟩ := hX)
                      try have hfk := hfit k (by omega)
                      try have hb1 := flowOut_bd (m := l.length) hp1 haw hfit k (by omega) (gx l k).f.toNat (by omega)
                      try have hb2 := flowMid_bd (m := l.length) hp1 haw hfit k (by omega) (gx l k).t.toNat (by omega)
                      try have hbj := flowOut_bd (m := l.length) hp1 haw hfit l.length (by omega) j (by omega)
                      try have hnw := neg_wrap ha
                      refine kwp_seq ?_
                      refine kwp_region ?_
                      refine kops_d rfl rfl (opv_assign rfl rfl) ?_
                      refine kops_nil ?_
                      refine kn_then ?_
                      refine kwp_ret ?_
                      refine kr_block ?_
                      refine kr_then ?_
                      refine kr_then ?_
                      refine kr_block ?_
                      refine kr_then ?_
                      refine kret1 [] rfl rfl ?_ (by (repeat (first | exact Sub.refl _ | exact Sub.nil _ | refine Sub.chunk (by repeat (first | exact Pick.here | apply Pick.there)) (by first | rfl | (simp; done) | (congr 1; omega)) ?_)))
                      first | exact ⟨vf (fun h => by first | exact absurd h.ok (by assumption) | exact absurd h.fit (by assumption) | (have h2 := h.i0; have h3 := h.i1; have h4 := h.o0; have h5 := h.o1; have h6 := h.fit.len; omega) | (have h6 := h.fit.fit k (by omega); omega)), rfl⟩ | exact ⟨vt ⟨⟨hp1, hp5, hl7, haw⟩, by omega, by omega, by omega, by omega, ⟨hfl, hfit⟩, fun v hv => hall v (by omega)⟩, rfl⟩ | exact ⟨vf (fun h => by have hw := h.all j (by omega); simp only [want] at hw; (repeat' split at hw) <;> omega), rfl⟩ 
                    ·
                      first | have hc40n := kb_nt hc40 | have hc40n := kb_nf hc40 | have hc40n := hc40
                      first | have hc40m := of_decide_eq_true hc40n | have hc40m := of_decide_eq_false hc40n | have hc40m := kb_eq hc40n | have hc40m := kb_ne hc40n | have hc40m := kb_bne hc40n | have hc40m := kb_nbne hc40n | have hc40m := isIx_t hc40n | have hc40m := isIx_f hc40n | have hc40m := inR_t hc40n | have hc40m := inR_f hc40n | have hc40m := dec_tt hc40n | have hc40m := dec_ff hc40n | have hc40m := hc40n
                      try simp only [List.get_eq_getElem] at hc40n
                      try simp only [List.get_eq_getElem] at hc40m
                      try (have hX : MineOk _ _ := hc40m; obtain ⟨hp1, hp5, hl7, haw⟩ := hX)
                      try (have hX : FlowFits _ _ := hc40m; obtain ⟨hfl, hfit⟩ := hX)
                      try (have hX := haw k (by omega); obtain ⟨hf0, hf1, ht0, ht1, hft, hw1, hw6⟩ := hX)
                      try have hfk := hfit k (by omega)
                      try have hb1 := flowOut_bd (m := l.length) hp1 haw hfit k (by omega) (gx l k).f.toNat (by omega)
                      try have hb2 := flowMid_bd (m := l.length) hp1 haw hfit k (by omega) (gx l k).t.toNat (by omega)
                      try have hbj := flowOut_bd (m := l.length) hp1 haw hfit l.length (by omega) j (by omega)
                      try have hnw := neg_wrap ha
                      refine kwp_skip ?_
                      refine kn_block ?_
                      refine kn_then ?_
                      refine kwp_region ?_
                      refine kops_d rfl rfl (by first | exact opv_add rfl rfl rfl ⟨by omega, by omega⟩ | exact opv_ari rfl rfl rfl rfl) ?_
                      refine kops_d rfl rfl (opv_move rfl rfl) ?_
                      refine kops_nil ?_
                      refine kn_then ?_
                      exact ⟨j + 1, ⟨by (exact ⟨by omega, upto hall (by simp only [want]; (repeat' split) <;> omega)⟩), by (repeat (first | exact Knows.nil _ | refine Knows.cons2 rfl (by first | rfl | (simp; done) | (congr 1; omega)) ?_)), by (repeat (first | exact Sub.refl _ | exact Sub.nil _ | refine Sub.chunk (by repeat (first | exact Pick.here | apply Pick.there)) (by first | rfl | (simp; done) | (congr 1; omega)) ?_))⟩, by omega⟩
              ·
                first | have hb18n := kb_nt hb18 | have hb18n := kb_nf hb18 | have hb18n := hb18
                first | have hb18m := of_decide_eq_true hb18n | have hb18m := of_decide_eq_false hb18n | have hb18m := kb_eq hb18n | have hb18m := kb_ne hb18n | have hb18m := kb_bne hb18n | have hb18m := kb_nbne hb18n | have hb18m := isIx_t hb18n | have hb18m := isIx_f hb18n | have hb18m := inR_t hb18n | have hb18m := inR_f hb18n | have hb18m := dec_tt hb18n | have hb18m := dec_ff hb18n | have hb18m := hb18n
                try simp only [List.get_eq_getElem] at hb18n
                try simp only [List.get_eq_getElem] at hb18m
                try (have hX : MineOk _ _ := hb18m; obtain ⟨hp1, hp5, hl7, haw⟩ := hX)
                try (have hX : FlowFits _ _ := hb18m; obtain ⟨hfl, hfit⟩ := hX)
                try (have hX := haw k (by omega); obtain ⟨hf0, hf1, ht0, ht1, hft, hw1, hw6⟩ := hX)
                try have hfk := hfit k (by omega)
                try have hb1 := flowOut_bd (m := l.length) hp1 haw hfit k (by omega) (gx l k).f.toNat (by omega)
                try have hb2 := flowMid_bd (m := l.length) hp1 haw hfit k (by omega) (gx l k).t.toNat (by omega)
                try have hbj := flowOut_bd (m := l.length) hp1 haw hfit l.length (by omega) j (by omega)
                try have hnw := neg_wrap ha
                refine kops_skip rfl rfl rfl hb18 ?_
                refine kops_skip rfl rfl rfl hb18 ?_
                refine kops_skip rfl rfl rfl hb18 ?_
                refine kops_d rfl rfl (opv_pick_f rfl rfl rfl hb18) ?_
                refine kops_nil ?_
                refine kn_then ?_
                refine kwp_cond_f rfl rfl ?_
                refine kwp_skip ?_
                refine kn_then ?_
                refine kwp_seq ?_
                refine kwp_seq ?_
                refine kwp_region ?_
                refine kops_d rfl rfl (opv_move rfl rfl) ?_
                refine kops_d rfl rfl (opv_move rfl rfl) ?_
                refine kops_d rfl rfl (opv_cmp rfl rfl rfl rfl) ?_
                refine kops_d rfl rfl (opv_move rfl rfl) ?_
                refine kops_split 93 rfl (fun hb42 => ?_) (fun hb42 => ?_)
                ·
                  first | have hb42n := kb_nt hb42 | have hb42n := kb_nf hb42 | have hb42n := hb42
                  first | have hb42m := of_decide_eq_true hb42n | have hb42m := of_decide_eq_false hb42n | have hb42m := kb_eq hb42n | have hb42m := kb_ne hb42n | have hb42m := kb_bne hb42n | have hb42m := kb_nbne hb42n | have hb42m := isIx_t hb42n | have hb42m := isIx_f hb42n | have hb42m := inR_t hb42n | have hb42m := inR_f hb42n | have hb42m := dec_tt hb42n | have hb42m := dec_ff hb42n | have hb42m := hb42n
                  try simp only [List.get_eq_getElem] at hb42n
                  try simp only [List.get_eq_getElem] at hb42m
                  try (have hX : MineOk _ _ := hb42m; obtain ⟨hp1, hp5, hl7, haw⟩ := hX)
                  try (have hX : FlowFits _ _ := hb42m; obtain ⟨hfl, hfit⟩ := hX)
                  try (have hX := haw k (by omega); obtain ⟨hf0, hf1, ht0, ht1, hft, hw1, hw6⟩ := hX)
                  try have hfk := hfit k (by omega)
                  try have hb1 := flowOut_bd (m := l.length) hp1 haw hfit k (by omega) (gx l k).f.toNat (by omega)
                  try have hb2 := flowMid_bd (m := l.length) hp1 haw hfit k (by omega) (gx l k).t.toNat (by omega)
                  try have hbj := flowOut_bd (m := l.length) hp1 haw hfit l.length (by omega) j (by omega)
                  try have hnw := neg_wrap ha
                  refine kops_gd rfl rfl rfl hb42 rfl (opv_move rfl rfl) ?_
                  refine kops_gd rfl rfl rfl hb42 rfl (opv_move rfl rfl) ?_
                  refine kops_gd rfl rfl rfl hb42 rfl (opv_cmp rfl rfl rfl rfl) ?_
                  refine kops_d rfl rfl (opv_pick_t rfl rfl rfl hb42) ?_
                  refine kops_nil ?_
                  refine kn_then ?_
                  refine kwp_cond rfl (fun hc44 => ?_) (fun hc44 => ?_)
                  ·
                    first | have hc44n := kb_nt hc44 | have hc44n := kb_nf hc44 | have hc44n := hc44
                    first | have hc44m := of_decide_eq_true hc44n | have hc44m := of_decide_eq_false hc44n | have hc44m := kb_eq hc44n | have hc44m := kb_ne hc44n | have hc44m := kb_bne hc44n | have hc44m := kb_nbne hc44n | have hc44m := isIx_t hc44n | have hc44m := isIx_f hc44n | have hc44m := inR_t hc44n | have hc44m := inR_f hc44n | have hc44m := dec_tt hc44n | have hc44m := dec_ff hc44n | have hc44m := hc44n
                    try simp only [List.get_eq_getElem] at hc44n
                    try simp only [List.get_eq_getElem] at hc44m
                    try (have hX : MineOk _ _ := hc44m; obtain ⟨hp1, hp5, hl7, haw⟩ := hX)
                    try (have hX : FlowFits _ _ := hc44m; obtain ⟨hfl, hfit⟩ := hX)
                    try (have hX := haw k (by omega); obtain ⟨hf0, hf1, ht0, ht1, hft, hw1, hw6⟩ := hX)
                    try have hfk := hfit k (by omega)
                    try have hb1 := flowOut_bd (m := l.length) hp1 haw hfit k (by omega) (gx l k).f.toNat (by omega)
                    try have hb2 := flowMid_bd (m := l.length) hp1 haw hfit k (by omega) (gx l k).t.toNat (by omega)
                    try have hbj := flowOut_bd (m := l.length) hp1 haw hfit l.length (by omega) j (by omega)
                    try have hnw := neg_wrap ha
                    refine kwp_region ?_
                    refine kops_d rfl rfl (opv_move rfl rfl) ?_
                    refine kops_d rfl rfl (by first | exact opv_neg' rfl rfl ⟨by omega, by omega⟩ | exact opv_neg rfl rfl) ?_
                    refine kops_d rfl rfl (opv_assign rfl rfl) ?_
                    refine kops_nil ?_
                    refine kn_then ?_
                    refine kwp_seq ?_
                    refine kwp_region ?_
                    refine kops_d rfl rfl (opv_move rfl rfl) ?_
                    refine kops_d rfl rfl (opv_move rfl rfl) ?_
                    refine kops_d rfl rfl (opv_cmp rfl rfl rfl rfl) ?_
                    refine kops_nil ?_
                    refine kn_then ?_
                    refine kwp_cond rfl (fun hc46 => ?_) (fun hc46 => ?_)
                    ·
                      first | have hc46n := kb_nt hc46 | have hc46n := kb_nf hc46 | have hc46n := hc46
                      first | have hc46m := of_decide_eq_true hc46n | have hc46m := of_decide_eq_false hc46n | have hc46m := kb_eq hc46n | have hc46m := kb_ne hc46n | have hc46m := kb_bne hc46n | have hc46m := kb_nbne hc46n | have hc46m := isIx_t hc46n | have hc46m := isIx_f hc46n | have hc46m := inR_t hc46n | have hc46m := inR_f hc46n | have hc46m := dec_tt hc46n | have hc46m := dec_ff hc46n | have hc46m := hc46n
                      try simp only [List.get_eq_getElem] at hc46n
                      try simp only [List.get_eq_getElem] at hc46m
                      try (have hX : MineOk _ _ := hc46m; obtain ⟨hp1, hp5, hl7, haw⟩ := hX)
                      try (have hX : FlowFits _ _ := hc46m; obtain ⟨hfl, hfit⟩ := hX)
                      try (have hX := haw k (by omega); obtain ⟨hf0, hf1, ht0, ht1, hft, hw1, hw6⟩ := hX)
                      try have hfk := hfit k (by omega)
                      try have hb1 := flowOut_bd (m := l.length) hp1 haw hfit k (by omega) (gx l k).f.toNat (by omega)
                      try have hb2 := flowMid_bd (m := l.length) hp1 haw hfit k (by omega) (gx l k).t.toNat (by omega)
                      try have hbj := flowOut_bd (m := l.length) hp1 haw hfit l.length (by omega) j (by omega)
                      try have hnw := neg_wrap ha
                      refine kwp_seq ?_
                      refine kwp_region ?_
                      refine kops_d rfl rfl (opv_assign rfl rfl) ?_
                      refine kops_nil ?_
                      refine kn_then ?_
                      refine kwp_ret ?_
                      refine kr_block ?_
                      refine kr_then ?_
                      refine kr_then ?_
                      refine kr_block ?_
                      refine kr_then ?_
                      refine kret1 [] rfl rfl ?_ (by (repeat (first | exact Sub.refl _ | exact Sub.nil _ | refine Sub.chunk (by repeat (first | exact Pick.here | apply Pick.there)) (by first | rfl | (simp; done) | (congr 1; omega)) ?_)))
                      first | exact ⟨vf (fun h => by first | exact absurd h.ok (by assumption) | exact absurd h.fit (by assumption) | (have h2 := h.i0; have h3 := h.i1; have h4 := h.o0; have h5 := h.o1; have h6 := h.fit.len; omega) | (have h6 := h.fit.fit k (by omega); omega)), rfl⟩ | exact ⟨vt ⟨⟨hp1, hp5, hl7, haw⟩, by omega, by omega, by omega, by omega, ⟨hfl, hfit⟩, fun v hv => hall v (by omega)⟩, rfl⟩ | exact ⟨vf (fun h => by have hw := h.all j (by omega); simp only [want] at hw; (repeat' split at hw) <;> omega), rfl⟩ 
                    ·
                      first | have hc46n := kb_nt hc46 | have hc46n := kb_nf hc46 | have hc46n := hc46
                      first | have hc46m := of_decide_eq_true hc46n | have hc46m := of_decide_eq_false hc46n | have hc46m := kb_eq hc46n | have hc46m := kb_ne hc46n | have hc46m := kb_bne hc46n | have hc46m := kb_nbne hc46n | have hc46m := isIx_t hc46n | have hc46m := isIx_f hc46n | have hc46m := inR_t hc46n | have hc46m := inR_f hc46n | have hc46m := dec_tt hc46n | have hc46m := dec_ff hc46n | have hc46m := hc46n
                      try simp only [List.get_eq_getElem] at hc46n
                      try simp only [List.get_eq_getElem] at hc46m
                      try (have hX : MineOk _ _ := hc46m; obtain ⟨hp1, hp5, hl7, haw⟩ := hX)
                      try (have hX : FlowFits _ _ := hc46m; obtain ⟨hfl, hfit⟩ := hX)
                      try (have hX := haw k (by omega); obtain ⟨hf0, hf1, ht0, ht1, hft, hw1, hw6⟩ := hX)
                      try have hfk := hfit k (by omega)
                      try have hb1 := flowOut_bd (m := l.length) hp1 haw hfit k (by omega) (gx l k).f.toNat (by omega)
                      try have hb2 := flowMid_bd (m := l.length) hp1 haw hfit k (by omega) (gx l k).t.toNat (by omega)
                      try have hbj := flowOut_bd (m := l.length) hp1 haw hfit l.length (by omega) j (by omega)
                      try have hnw := neg_wrap ha
                      refine kwp_skip ?_
                      refine kn_block ?_
                      refine kn_then ?_
                      refine kwp_region ?_
                      refine kops_d rfl rfl (by first | exact opv_add rfl rfl rfl ⟨by omega, by omega⟩ | exact opv_ari rfl rfl rfl rfl) ?_
                      refine kops_d rfl rfl (opv_move rfl rfl) ?_
                      refine kops_nil ?_
                      refine kn_then ?_
                      exact ⟨j + 1, ⟨by (exact ⟨by omega, upto hall (by simp only [want]; (repeat' split) <;> omega)⟩), by (repeat (first | exact Knows.nil _ | refine Knows.cons2 rfl (by first | rfl | (simp; done) | (congr 1; omega)) ?_)), by (repeat (first | exact Sub.refl _ | exact Sub.nil _ | refine Sub.chunk (by repeat (first | exact Pick.here | apply Pick.there)) (by first | rfl | (simp; done) | (congr 1; omega)) ?_))⟩, by omega⟩
                  ·
                    first | have hc44n := kb_nt hc44 | have hc44n := kb_nf hc44 | have hc44n := hc44
                    first | have hc44m := of_decide_eq_true hc44n | have hc44m := of_decide_eq_false hc44n | have hc44m := kb_eq hc44n | have hc44m := kb_ne hc44n | have hc44m := kb_bne hc44n | have hc44m := kb_nbne hc44n | have hc44m := isIx_t hc44n | have hc44m := isIx_f hc44n | have hc44m := inR_t hc44n | have hc44m := inR_f hc44n | have hc44m := dec_tt hc44n | have hc44m := dec_ff hc44n | have hc44m := hc44n
                    try simp only [List.get_eq_getElem] at hc44n
                    try simp only [List.get_eq_getElem] at hc44m
                    try (have hX : MineOk _ _ := hc44m; obtain ⟨hp1, hp5, hl7, haw⟩ := hX)
                    try (have hX : FlowFits _ _ := hc44m; obtain ⟨hfl, hfit⟩ := hX)
                    try (have hX := haw k (by omega); obtain ⟨hf0, hf1, ht0, ht1, hft, hw1, hw6⟩ := hX)
                    try have hfk := hfit k (by omega)
                    try have hb1 := flowOut_bd (m := l.length) hp1 haw hfit k (by omega) (gx l k).f.toNat (by omega)
                    try have hb2 := flowMid_bd (m := l.length) hp1 haw hfit k (by omega) (gx l k).t.toNat (by omega)
                    try have hbj := flowOut_bd (m := l.length) hp1 haw hfit l.length (by omega) j (by omega)
                    try have hnw := neg_wrap ha
                    refine kwp_skip ?_
                    refine kn_then ?_
                    refine kwp_seq ?_
                    refine kwp_region ?_
                    refine kops_d rfl rfl (opv_move rfl rfl) ?_
                    refine kops_d rfl rfl (opv_move rfl rfl) ?_
                    refine kops_d rfl rfl (opv_cmp rfl rfl rfl rfl) ?_
                    refine kops_nil ?_
                    refine kn_then ?_
                    refine kwp_cond rfl (fun hc48 => ?_) (fun hc48 => ?_)
                    ·
                      first | have hc48n := kb_nt hc48 | have hc48n := kb_nf hc48 | have hc48n := hc48
                      first | have hc48m := of_decide_eq_true hc48n | have hc48m := of_decide_eq_false hc48n | have hc48m := kb_eq hc48n | have hc48m := kb_ne hc48n | have hc48m := kb_bne hc48n | have hc48m := kb_nbne hc48n | have hc48m := isIx_t hc48n | have hc48m := isIx_f hc48n | have hc48m := inR_t hc48n | have hc48m := inR_f hc48n | have hc48m := dec_tt hc48n | have hc48m := dec_ff hc48n | have hc48m := hc48n
                      try simp only [List.get_eq_getElem] at hc48n
                      try simp only [List.get_eq_getElem] at hc48m
                      try (have hX : MineOk _ _ := hc48m; obtain ⟨hp1, hp5, hl7, haw⟩ := hX)
                      try (have hX : FlowFits _ _ := hc48m; obtain ⟨hfl, hfit⟩ := hX)
                      try (have hX := haw k (by omega); obtain ⟨hf0, hf1, ht0, ht1, hft, hw1, hw6⟩ := hX)
                      try have hfk := hfit k (by omega)
                      try have hb1 := flowOut_bd (m := l.length) hp1 haw hfit k (by omega) (gx l k).f.toNat (by omega)
                      try have hb2 := flowMid_bd (m := l.length) hp1 haw hfit k (by omega) (gx l k).t.toNat (by omega)
                      try have hbj := flowOut_bd (m := l.length) hp1 haw hfit l.length (by omega) j (by omega)
                      try have hnw := neg_wrap ha
                      refine kwp_seq ?_
                      refine kwp_region ?_
                      refine kops_d rfl rfl (opv_assign rfl rfl) ?_
                      refine kops_nil ?_
                      refine kn_then ?_
                      refine kwp_ret ?_
                      refine kr_block ?_
                      refine kr_then ?_
                      refine kr_then ?_
                      refine kr_block ?_
                      refine kr_then ?_
                      refine kret1 [] rfl rfl ?_ (by (repeat (first | exact Sub.refl _ | exact Sub.nil _ | refine Sub.chunk (by repeat (first | exact Pick.here | apply Pick.there)) (by first | rfl | (simp; done) | (congr 1; omega)) ?_)))
                      first | exact ⟨vf (fun h => by first | exact absurd h.ok (by assumption) | exact absurd h.fit (by assumption) | (have h2 := h.i0; have h3 := h.i1; have h4 := h.o0; have h5 := h.o1; have h6 := h.fit.len; omega) | (have h6 := h.fit.fit k (by omega); omega)), rfl⟩ | exact ⟨vt ⟨⟨hp1, hp5, hl7, haw⟩, by omega, by omega, by omega, by omega, ⟨hfl, hfit⟩, fun v hv => hall v (by omega)⟩, rfl⟩ | exact ⟨vf (fun h => by have hw := h.all j (by omega); simp only [want] at hw; (repeat' split at hw) <;> omega), rfl⟩ 
                    ·
                      first | have hc48n := kb_nt hc48 | have hc48n := kb_nf hc48 | have hc48n := hc48
                      first | have hc48m := of_decide_eq_true hc48n | have hc48m := of_decide_eq_false hc48n | have hc48m := kb_eq hc48n | have hc48m := kb_ne hc48n | have hc48m := kb_bne hc48n | have hc48m := kb_nbne hc48n | have hc48m := isIx_t hc48n | have hc48m := isIx_f hc48n | have hc48m := inR_t hc48n | have hc48m := inR_f hc48n | have hc48m := dec_tt hc48n | have hc48m := dec_ff hc48n | have hc48m := hc48n
                      try simp only [List.get_eq_getElem] at hc48n
                      try simp only [List.get_eq_getElem] at hc48m
                      try (have hX : MineOk _ _ := hc48m; obtain ⟨hp1, hp5, hl7, haw⟩ := hX)
                      try (have hX : FlowFits _ _ := hc48m; obtain ⟨hfl, hfit⟩ := hX)
                      try (have hX := haw k (by omega); obtain ⟨hf0, hf1, ht0, ht1, hft, hw1, hw6⟩ := hX)
                      try have hfk := hfit k (by omega)
                      try have hb1 := flowOut_bd (m := l.length) hp1 haw hfit k (by omega) (gx l k).f.toNat (by omega)
                      try have hb2 := flowMid_bd (m := l.length) hp1 haw hfit k (by omega) (gx l k).t.toNat (by omega)
                      try have hbj := flowOut_bd (m := l.length) hp1 haw hfit l.length (by omega) j (by omega)
                      try have hnw := neg_wrap ha
                      refine kwp_skip ?_
                      refine kn_block ?_
                      refine kn_then ?_
                      refine kwp_region ?_
                      refine kops_d rfl rfl (by first | exact opv_add rfl rfl rfl ⟨by omega, by omega⟩ | exact opv_ari rfl rfl rfl rfl) ?_
                      refine kops_d rfl rfl (opv_move rfl rfl) ?_
                      refine kops_nil ?_
                      refine kn_then ?_
                      exact ⟨j + 1, ⟨by (exact ⟨by omega, upto hall (by simp only [want]; (repeat' split) <;> omega)⟩), by (repeat (first | exact Knows.nil _ | refine Knows.cons2 rfl (by first | rfl | (simp; done) | (congr 1; omega)) ?_)), by (repeat (first | exact Sub.refl _ | exact Sub.nil _ | refine Sub.chunk (by repeat (first | exact Pick.here | apply Pick.there)) (by first | rfl | (simp; done) | (congr 1; omega)) ?_))⟩, by omega⟩
                ·
                  first | have hb42n := kb_nt hb42 | have hb42n := kb_nf hb42 | have hb42n := hb42
                  first | have hb42m := of_decide_eq_true hb42n | have hb42m := of_decide_eq_false hb42n | have hb42m := kb_eq hb42n | have hb42m := kb_ne hb42n | have hb42m := kb_bne hb42n | have hb42m := kb_nbne hb42n | have hb42m := isIx_t hb42n | have hb42m := isIx_f hb42n | have hb42m := inR_t hb42n | have hb42m := inR_f hb42n | have hb42m := dec_tt hb42n | have hb42m := dec_ff hb42n | have hb42m := hb42n
                  try simp only [List.get_eq_getElem] at hb42n
                  try simp only [List.get_eq_getElem] at hb42m
                  try (have hX : MineOk _ _ := hb42m; obtain ⟨hp1, hp5, hl7, haw⟩ := hX)
                  try (have hX : FlowFits _ _ := hb42m; obtain ⟨hfl, hfit⟩ := hX)
                  try (have hX := haw k (by omega); obtain ⟨hf0, hf1, ht0, ht1, hft, hw1, hw6⟩ := hX)
                  try have hfk := hfit k (by omega)
                  try have hb1 := flowOut_bd (m := l.length) hp1 haw hfit k (by omega) (gx l k).f.toNat (by omega)
                  try have hb2 := flowMid_bd (m := l.length) hp1 haw hfit k (by omega) (gx l k).t.toNat (by omega)
                  try have hbj := flowOut_bd (m := l.length) hp1 haw hfit l.length (by omega) j (by omega)
                  try have hnw := neg_wrap ha
                  refine kops_skip rfl rfl rfl hb42 ?_
                  refine kops_skip rfl rfl rfl hb42 ?_
                  refine kops_skip rfl rfl rfl hb42 ?_
                  refine kops_d rfl rfl (opv_pick_f rfl rfl rfl hb42) ?_
                  refine kops_nil ?_
                  refine kn_then ?_
                  refine kwp_cond_f rfl rfl ?_
                  refine kwp_skip ?_
                  refine kn_then ?_
                  refine kwp_seq ?_
                  refine kwp_region ?_
                  refine kops_d rfl rfl (opv_move rfl rfl) ?_
                  refine kops_d rfl rfl (opv_move rfl rfl) ?_
                  refine kops_d rfl rfl (opv_cmp rfl rfl rfl rfl) ?_
                  refine kops_nil ?_
                  refine kn_then ?_
                  refine kwp_cond rfl (fun hc50 => ?_) (fun hc50 => ?_)
                  ·
                    first | have hc50n := kb_nt hc50 | have hc50n := kb_nf hc50 | have hc50n := hc50
                    first | have hc50m := of_decide_eq_true hc50n | have hc50m := of_decide_eq_false hc50n | have hc50m := kb_eq hc50n | have hc50m := kb_ne hc50n | have hc50m := kb_bne hc50n | have hc50m := kb_nbne hc50n | have hc50m := isIx_t hc50n | have hc50m := isIx_f hc50n | have hc50m := inR_t hc50n | have hc50m := inR_f hc50n | have hc50m := dec_tt hc50n | have hc50m := dec_ff hc50n | have hc50m := hc50n
                    try simp only [List.get_eq_getElem] at hc50n
                    try simp only [List.get_eq_getElem] at hc50m
                    try (have hX : MineOk _ _ := hc50m; obtain ⟨hp1, hp5, hl7, haw⟩ := hX)
                    try (have hX : FlowFits _ _ := hc50m; obtain ⟨hfl, hfit⟩ := hX)
                    try (have hX := haw k (by omega); obtain ⟨hf0, hf1, ht0, ht1, hft, hw1, hw6⟩ := hX)
                    try have hfk := hfit k (by omega)
                    try have hb1 := flowOut_bd (m := l.length) hp1 haw hfit k (by omega) (gx l k).f.toNat (by omega)
                    try have hb2 := flowMid_bd (m := l.length) hp1 haw hfit k (by omega) (gx l k).t.toNat (by omega)
                    try have hbj := flowOut_bd (m := l.length) hp1 haw hfit l.length (by omega) j (by omega)
                    try have hnw := neg_wrap ha
                    refine kwp_seq ?_
                    refine kwp_region ?_
                    refine kops_d rfl rfl (opv_assign rfl rfl) ?_
                    refine kops_nil ?_
                    refine kn_then ?_
                    refine kwp_ret ?_
                    refine kr_block ?_
                    refine kr_then ?_
                    refine kr_then ?_
                    refine kr_block ?_
                    refine kr_then ?_
                    refine kret1 [] rfl rfl ?_ (by (repeat (first | exact Sub.refl _ | exact Sub.nil _ | refine Sub.chunk (by repeat (first | exact Pick.here | apply Pick.there)) (by first | rfl | (simp; done) | (congr 1; omega)) ?_)))
                    first | exact ⟨vf (fun h => by first | exact absurd h.ok (by assumption) | exact absurd h.fit (by assumption) | (have h2 := h.i0; have h3 := h.i1; have h4 := h.o0; have h5 := h.o1; have h6 := h.fit.len; omega) | (have h6 := h.fit.fit k (by omega); omega)), rfl⟩ | exact ⟨vt ⟨⟨hp1, hp5, hl7, haw⟩, by omega, by omega, by omega, by omega, ⟨hfl, hfit⟩, fun v hv => hall v (by omega)⟩, rfl⟩ | exact ⟨vf (fun h => by have hw := h.all j (by omega); simp only [want] at hw; (repeat' split at hw) <;> omega), rfl⟩ 
                  ·
                    first | have hc50n := kb_nt hc50 | have hc50n := kb_nf hc50 | have hc50n := hc50
                    first | have hc50m := of_decide_eq_true hc50n | have hc50m := of_decide_eq_false hc50n | have hc50m := kb_eq hc50n | have hc50m := kb_ne hc50n | have hc50m := kb_bne hc50n | have hc50m := kb_nbne hc50n | have hc50m := isIx_t hc50n | have hc50m := isIx_f hc50n | have hc50m := inR_t hc50n | have hc50m := inR_f hc50n | have hc50m := dec_tt hc50n | have hc50m := dec_ff hc50n | have hc50m := hc50n
                    try simp only [List.get_eq_getElem] at hc50n
                    try simp only [List.get_eq_getElem] at hc50m
                    try (have hX : MineOk _ _ := hc50m; obtain ⟨hp1, hp5, hl7, haw⟩ := hX)
                    try (have hX : FlowFits _ _ := hc50m; obtain ⟨hfl, hfit⟩ := hX)
                    try (have hX := haw k (by omega); obtain ⟨hf0, hf1, ht0, ht1, hft, hw1, hw6⟩ := hX)
                    try have hfk := hfit k (by omega)
                    try have hb1 := flowOut_bd (m := l.length) hp1 haw hfit k (by omega) (gx l k).f.toNat (by omega)
                    try have hb2 := flowMid_bd (m := l.length) hp1 haw hfit k (by omega) (gx l k).t.toNat (by omega)
                    try have hbj := flowOut_bd (m := l.length) hp1 haw hfit l.length (by omega) j (by omega)
                    try have hnw := neg_wrap ha
                    refine kwp_skip ?_
                    refine kn_block ?_
                    refine kn_then ?_
                    refine kwp_region ?_
                    refine kops_d rfl rfl (by first | exact opv_add rfl rfl rfl ⟨by omega, by omega⟩ | exact opv_ari rfl rfl rfl rfl) ?_
                    refine kops_d rfl rfl (opv_move rfl rfl) ?_
                    refine kops_nil ?_
                    refine kn_then ?_
                    exact ⟨j + 1, ⟨by (exact ⟨by omega, upto hall (by simp only [want]; (repeat' split) <;> omega)⟩), by (repeat (first | exact Knows.nil _ | refine Knows.cons2 rfl (by first | rfl | (simp; done) | (congr 1; omega)) ?_)), by (repeat (first | exact Sub.refl _ | exact Sub.nil _ | refine Sub.chunk (by repeat (first | exact Pick.here | apply Pick.there)) (by first | rfl | (simp; done) | (congr 1; omega)) ?_))⟩, by omega⟩
            ·
              first | have hc16n := kb_nt hc16 | have hc16n := kb_nf hc16 | have hc16n := hc16
              first | have hc16m := of_decide_eq_true hc16n | have hc16m := of_decide_eq_false hc16n | have hc16m := kb_eq hc16n | have hc16m := kb_ne hc16n | have hc16m := kb_bne hc16n | have hc16m := kb_nbne hc16n | have hc16m := isIx_t hc16n | have hc16m := isIx_f hc16n | have hc16m := inR_t hc16n | have hc16m := inR_f hc16n | have hc16m := dec_tt hc16n | have hc16m := dec_ff hc16n | have hc16m := hc16n
              try simp only [List.get_eq_getElem] at hc16n
              try simp only [List.get_eq_getElem] at hc16m
              try (have hX : MineOk _ _ := hc16m; obtain ⟨hp1, hp5, hl7, haw⟩ := hX)
              try (have hX : FlowFits _ _ := hc16m; obtain ⟨hfl, hfit⟩ := hX)
              try (have hX := haw k (by omega); obtain ⟨hf0, hf1, ht0, ht1, hft, hw1, hw6⟩ := hX)
              try have hfk := hfit k (by omega)
              try have hb1 := flowOut_bd (m := l.length) hp1 haw hfit k (by omega) (gx l k).f.toNat (by omega)
              try have hb2 := flowMid_bd (m := l.length) hp1 haw hfit k (by omega) (gx l k).t.toNat (by omega)
              try have hbj := flowOut_bd (m := l.length) hp1 haw hfit l.length (by omega) j (by omega)
              try have hnw := neg_wrap ha
              refine kwp_exit ?_
              refine ke_then ?_
              refine ke_then ?_
              refine ke_block ?_
              refine kn_then ?_
              refine kwp_seq ?_
              refine kwp_region ?_
              refine kops_d rfl rfl (opv_assign rfl rfl) ?_
              refine kops_nil ?_
              refine kn_then ?_
              refine kwp_ret ?_
              refine kret1 [] rfl rfl ?_ (by (repeat (first | exact Sub.refl _ | exact Sub.nil _ | refine Sub.chunk (by repeat (first | exact Pick.here | apply Pick.there)) (by first | rfl | (simp; done) | (congr 1; omega)) ?_)))
              first | exact ⟨vf (fun h => by first | exact absurd h.ok (by assumption) | exact absurd h.fit (by assumption) | (have h2 := h.i0; have h3 := h.i1; have h4 := h.o0; have h5 := h.o1; have h6 := h.fit.len; omega) | (have h6 := h.fit.fit k (by omega); omega)), rfl⟩ | exact ⟨vt ⟨⟨hp1, hp5, hl7, haw⟩, by omega, by omega, by omega, by omega, ⟨hfl, hfit⟩, fun v hv => hall v (by omega)⟩, rfl⟩ | exact ⟨vf (fun h => by have hw := h.all j (by omega); simp only [want] at hw; (repeat' split at hw) <;> omega), rfl⟩ 

set_option maxRecDepth 20000 in
theorem c_spec_FlowOk (p : Int) (a : Option Addr) (n c : Nat) (l : List Airway) (i o amt : Int) (a2 : Option Addr) (n2 c2 : Nat) (fl : List Int) (hb : n ≤ 9223372036854775807 ∧ n2 ≤ 9223372036854775807) (ha : -9223372036854775808 ≤ amt ∧ amt ≤ 9223372036854775807) :
    Triple Try.prog 38 [.agg #[.int .i64 p, .slice a n c], .int .i64 i, .int .i64 o, .int .i64 amt, .slice a2 n2 c2] [⟨.slice a n c, 3, l.map encAirway⟩, ⟨.slice a2 n2 c2, 1, fl.map encI⟩] [] (fun r ch => r = .bool (dec (FlowOkP p l i o amt fl)) ∧ ch = []) := by
  refine triple_start 129 Try.func38 Try.ntmps38 rfl rfl (fun w0 => ?_)
  refine kwp_len (List.Mem.head _) (fun hn => ?_)
  refine kwp_len (List.Mem.tail _ (List.Mem.head _)) (fun hn2 => ?_)
  simp only [List.length_map] at hn hn2
  subst hn hn2
  refine kwp_seq ?_
  refine kwp_region ?_
  refine kops_step rfl (opk_box' (e := [_, _]) 2 rfl rfl rfl rfl (by decide) (fun p5 => ?_))
  refine kops_d rfl rfl (opv_assign rfl rfl) ?_
  refine kops_nil ?_
  refine kn_then ?_
  refine kwp_seq ?_
  refine kwp_seq ?_
  refine kwp_region ?_
  refine kops_d rfl rfl (opv_load_box rfl rfl Try.isAgg35 Try.sizeOf35 (by repeat (first | exact List.Mem.head _ | apply List.Mem.tail))) ?_
  refine kops_step rfl (opk_call rfl Try.call19 rfl (c_spec_MineValid _ _ _ _ _ (by omega)) ((perm_nil _)) (Views.cons (by repeat (first | exact List.Mem.head _ | apply List.Mem.tail)) (View.refl _) ((Views.nil _))) ?_)
  rintro _ _ ⟨rfl, rfl⟩
  refine kops_d rfl rfl (opv_not rfl rfl) ?_
  refine kops_d rfl rfl (opv_move rfl rfl) ?_
  refine kops_split 17 rfl (fun hb3 => ?_) (fun hb3 => ?_)
  ·
    first | have hb3n := kb_nt hb3 | have hb3n := kb_nf hb3 | have hb3n := hb3
    first | have hb3m := of_decide_eq_true hb3n | have hb3m := of_decide_eq_false hb3n | have hb3m := kb_eq hb3n | have hb3m := kb_ne hb3n | have hb3m := kb_bne hb3n | have hb3m := kb_nbne hb3n | have hb3m := isIx_t hb3n | have hb3m := isIx_f hb3n | have hb3m := inR_t hb3n | have hb3m := inR_f hb3n | have hb3m := dec_tt hb3n | have hb3m := dec_ff hb3n | have hb3m := hb3n
    try simp only [List.get_eq_getElem] at hb3n
    try simp only [List.get_eq_getElem] at hb3m
    try (have hX : MineOk _ _ := hb3m; obtain ⟨hp1, hp5, hl7, haw⟩ := hX)
    try (have hX := haw k (by omega); obtain ⟨hf0, hf1, ht0, ht1, hft, hw1, hw6⟩ := hX)
    try have hbk := (show -9999999 ≤ gx fl k ∧ gx fl k ≤ 9999999 by omega)
    try have hb1 := flowOut_bd (m := k) hp1 (fun i hi => haw i (by omega)) hfit k (by omega) (gx l k).f.toNat (by omega)
    try have hb2 := flowMid_bd (m := k + 1) hp1 (fun i hi => haw i (by omega)) (upto hfit hbk) k (by omega) (gx l k).t.toNat (by omega)
    refine kops_skip rfl rfl rfl hb3 ?_
    refine kops_skip rfl rfl rfl hb3 ?_
    refine kops_skip rfl rfl rfl hb3 ?_
    refine kops_skip rfl rfl rfl hb3 ?_
    refine kops_skip rfl rfl rfl hb3 ?_
    refine kops_skip rfl rfl rfl hb3 ?_
    refine kops_d rfl rfl (opv_pick_t rfl rfl rfl hb3) ?_
    refine kops_d rfl rfl (opv_move rfl rfl) ?_
    refine kops_skip rfl rfl rfl rfl ?_
    refine kops_skip rfl rfl rfl rfl ?_
    refine kops_skip rfl rfl rfl rfl ?_
    refine kops_skip rfl rfl rfl rfl ?_
    refine kops_skip rfl rfl rfl rfl ?_
    refine kops_skip rfl rfl rfl rfl ?_
    refine kops_d rfl rfl (opv_pick_t rfl rfl rfl rfl) ?_
    refine kops_d rfl rfl (opv_move rfl rfl) ?_
    refine kops_skip rfl rfl rfl rfl ?_
    refine kops_skip rfl rfl rfl rfl ?_
    refine kops_skip rfl rfl rfl rfl ?_
    refine kops_skip rfl rfl rfl rfl ?_
    refine kops_skip rfl rfl rfl rfl ?_
    refine kops_skip rfl rfl rfl rfl ?_
    refine kops_d rfl rfl (opv_pick_t rfl rfl rfl rfl) ?_
    refine kops_nil ?_
    refine kn_then ?_
    refine kwp_cond_t rfl rfl ?_
    refine kwp_seq ?_
    refine kwp_region ?_
    refine kops_d rfl rfl (opv_assign rfl rfl) ?_
    refine kops_nil ?_
    refine kn_then ?_
    refine kwp_ret ?_
    refine kr_then ?_
    refine kret1 [] rfl rfl ?_ (by (repeat (first | exact Sub.refl _ | exact Sub.nil _ | refine Sub.chunk (by repeat (first | exact Pick.here | apply Pick.there)) (by first | rfl | (simp; done) | (congr 1; omega)) ?_)))
    first | exact ⟨vf (fun h => by first | exact absurd h.ok (by assumption) | exact absurd h.fit (by assumption) | (have h2 := h.i0; have h3 := h.i1; have h4 := h.o0; have h5 := h.o1; have h6 := h.fit.len; omega) | (have h6 := h.fit.fit k (by omega); omega)), rfl⟩ | exact ⟨vt ⟨⟨hp1, hp5, hl7, haw⟩, by omega, by omega, by omega, by omega, ⟨by omega, hfit⟩, fun v hv => (hiff v hv).1 (hall v (by omega))⟩, rfl⟩ | exact ⟨vf (fun h => by have hw := (hiff j (by omega)).2 (h.all j (by omega)); omega), rfl⟩ 
  ·
    first | have hb3n := kb_nt hb3 | have hb3n := kb_nf hb3 | have hb3n := hb3
    first | have hb3m := of_decide_eq_true hb3n | have hb3m := of_decide_eq_false hb3n | have hb3m := kb_eq hb3n | have hb3m := kb_ne hb3n | have hb3m := kb_bne hb3n | have hb3m := kb_nbne hb3n | have hb3m := isIx_t hb3n | have hb3m := isIx_f hb3n | have hb3m := inR_t hb3n | have hb3m := inR_f hb3n | have hb3m := dec_tt hb3n | have hb3m := dec_ff hb3n | have hb3m := hb3n
    try simp only [List.get_eq_getElem] at hb3n
    try simp only [List.get_eq_getElem] at hb3m
    try (have hX : MineOk _ _ := hb3m; obtain ⟨hp1, hp5, hl7, haw⟩ := hX)
    try (have hX := haw k (by omega); obtain ⟨hf0, hf1, ht0, ht1, hft, hw1, hw6⟩ := hX)
    try have hbk := (show -9999999 ≤ gx fl k ∧ gx fl k ≤ 9999999 by omega)
    try have hb1 := flowOut_bd (m := k) hp1 (fun i hi => haw i (by omega)) hfit k (by omega) (gx l k).f.toNat (by omega)
    try have hb2 := flowMid_bd (m := k + 1) hp1 (fun i hi => haw i (by omega)) (upto hfit hbk) k (by omega) (gx l k).t.toNat (by omega)
    refine kops_gd rfl rfl rfl hb3 rfl (opv_move rfl rfl) ?_
    refine kops_gd rfl rfl rfl hb3 rfl (opv_fab rfl rfl fa_35_0 (by repeat (first | exact List.Mem.head _ | apply List.Mem.tail))) ?_
    refine kops_gd rfl rfl rfl hb3 rfl (opv_load rfl rfl Try.isAgg3 (by repeat (first | exact List.Mem.head _ | apply List.Mem.tail)) (by first | rfl | exact gx_map (by first | omega | (simp only [List.length_set, flowOut_len, flowM_len]; omega)) | (simp; done)) rfl) ?_
    refine kops_gd rfl rfl rfl hb3 rfl (by first | exact opv_sub rfl rfl rfl ⟨by omega, by omega⟩ | exact opv_ari rfl rfl rfl rfl) ?_
    refine kops_gk rfl rfl rfl hb3 (opk_call rfl Try.call56 rfl (c_spec_l1In _ _ _) ((perm_nil _)) ((Views.nil _)) ?_)
    rintro _ _ ⟨rfl, rfl⟩
    refine kops_gd rfl rfl rfl hb3 rfl (opv_not rfl rfl) ?_
    refine kops_d rfl rfl (opv_pick_f rfl rfl rfl hb3) ?_
    refine kops_d rfl rfl (opv_move rfl rfl) ?_
    refine kops_split 25 rfl (fun hb6 => ?_) (fun hb6 => ?_)
    ·
      first | have hb6n := kb_nt hb6 | have hb6n := kb_nf hb6 | have hb6n := hb6
      first | have hb6m := of_decide_eq_true hb6n | have hb6m := of_decide_eq_false hb6n | have hb6m := kb_eq hb6n | have hb6m := kb_ne hb6n | have hb6m := kb_bne hb6n | have hb6m := kb_nbne hb6n | have hb6m := isIx_t hb6n | have hb6m := isIx_f hb6n | have hb6m := inR_t hb6n | have hb6m := inR_f hb6n | have hb6m := dec_tt hb6n | have hb6m := dec_ff hb6n | have hb6m := hb6n
      try simp only [List.get_eq_getElem] at hb6n
      try simp only [List.get_eq_getElem] at hb6m
      try (have hX : MineOk _ _ := hb6m; obtain ⟨hp1, hp5, hl7, haw⟩ := hX)
      try (have hX := haw k (by omega); obtain ⟨hf0, hf1, ht0, ht1, hft, hw1, hw6⟩ := hX)
      try have hbk := (show -9999999 ≤ gx fl k ∧ gx fl k ≤ 9999999 by omega)
      try have hb1 := flowOut_bd (m := k) hp1 (fun i hi => haw i (by omega)) hfit k (by omega) (gx l k).f.toNat (by omega)
      try have hb2 := flowMid_bd (m := k + 1) hp1 (fun i hi => haw i (by omega)) (upto hfit hbk) k (by omega) (gx l k).t.toNat (by omega)
      refine kops_skip rfl rfl rfl hb6 ?_
      refine kops_skip rfl rfl rfl hb6 ?_
      refine kops_skip rfl rfl rfl hb6 ?_
      refine kops_skip rfl rfl rfl hb6 ?_
      refine kops_skip rfl rfl rfl hb6 ?_
      refine kops_skip rfl rfl rfl hb6 ?_
      refine kops_d rfl rfl (opv_pick_t rfl rfl rfl hb6) ?_
      refine kops_d rfl rfl (opv_move rfl rfl) ?_
      refine kops_skip rfl rfl rfl rfl ?_
      refine kops_skip rfl rfl rfl rfl ?_
      refine kops_skip rfl rfl rfl rfl ?_
      refine kops_skip rfl rfl rfl rfl ?_
      refine kops_skip rfl rfl rfl rfl ?_
      refine kops_skip rfl rfl rfl rfl ?_
      refine kops_d rfl rfl (opv_pick_t rfl rfl rfl rfl) ?_
      refine kops_nil ?_
      refine kn_then ?_
      refine kwp_cond_t rfl rfl ?_
      refine kwp_seq ?_
      refine kwp_region ?_
      refine kops_d rfl rfl (opv_assign rfl rfl) ?_
      refine kops_nil ?_
      refine kn_then ?_
      refine kwp_ret ?_
      refine kr_then ?_
      refine kret1 [] rfl rfl ?_ (by (repeat (first | exact Sub.refl _ | exact Sub.nil _ | refine Sub.chunk (by repeat (first | exact Pick.here | apply Pick.there)) (by first | rfl | (simp; done) | (congr 1; omega)) ?_)))
      first | exact ⟨vf (fun h => by first | exact absurd h.ok (by assumption) | exact absurd h.fit (by assumption) | (have h2 := h.i0; have h3 := h.i1; have h4 := h.o0; have h5 := h.o1; have h6 := h.fit.len; omega) | (have h6 := h.fit.fit k (by omega); omega)), rfl⟩ | exact ⟨vt ⟨⟨hp1, hp5, hl7, haw⟩, by omega, by omega, by omega, by omega, ⟨by omega, hfit⟩, fun v hv => (hiff v hv).1 (hall v (by omega))⟩, rfl⟩ | exact ⟨vf (fun h => by have hw := (hiff j (by omega)).2 (h.all j (by omega)); omega), rfl⟩ 
    ·
      first | have hb6n := kb_nt hb6 | have hb6n := kb_nf hb6 | have hb6n := hb6
      first | have hb6m := of_decide_eq_true hb6n | have hb6m := of_decide_eq_false hb6n | have hb6m := kb_eq hb6n | have hb6m := kb_ne hb6n | have hb6m := kb_bne hb6n | have hb6m := kb_nbne hb6n | have hb6m := isIx_t hb6n | have hb6m := isIx_f hb6n | have hb6m := inR_t hb6n | have hb6m := inR_f hb6n | have hb6m := dec_tt hb6n | have hb6m := dec_ff hb6n | have hb6m := hb6n
      try simp only [List.get_eq_getElem] at hb6n
      try simp only [List.get_eq_getElem] at hb6m
      try (have hX : MineOk _ _ := hb6m; obtain ⟨hp1, hp5, hl7, haw⟩ := hX)
      try (have hX := haw k (by omega); obtain ⟨hf0, hf1, ht0, ht1, hft, hw1, hw6⟩ := hX)
      try have hbk := (show -9999999 ≤ gx fl k ∧ gx fl k ≤ 9999999 by omega)
      try have hb1 := flowOut_bd (m := k) hp1 (fun i hi => haw i (by omega)) hfit k (by omega) (gx l k).f.toNat (by omega)
      try have hb2 := flowMid_bd (m := k + 1) hp1 (fun i hi => haw i (by omega)) (upto hfit hbk) k (by omega) (gx l k).t.toNat (by omega)
      refine kops_gd rfl rfl rfl hb6 rfl (opv_move rfl rfl) ?_
      refine kops_gd rfl rfl rfl hb6 rfl (opv_fab rfl rfl fa_35_0 (by repeat (first | exact List.Mem.head _ | apply List.Mem.tail))) ?_
      refine kops_gd rfl rfl rfl hb6 rfl (opv_load rfl rfl Try.isAgg3 (by repeat (first | exact List.Mem.head _ | apply List.Mem.tail)) (by first | rfl | exact gx_map (by first | omega | (simp only [List.length_set, flowOut_len, flowM_len]; omega)) | (simp; done)) rfl) ?_
      refine kops_gd rfl rfl rfl hb6 rfl (by first | exact opv_sub rfl rfl rfl ⟨by omega, by omega⟩ | exact opv_ari rfl rfl rfl rfl) ?_
      refine kops_gk rfl rfl rfl hb6 (opk_call rfl Try.call56 rfl (c_spec_l1In _ _ _) ((perm_nil _)) ((Views.nil _)) ?_)
      rintro _ _ ⟨rfl, rfl⟩
      refine kops_gd rfl rfl rfl hb6 rfl (opv_not rfl rfl) ?_
      refine kops_d rfl rfl (opv_pick_f rfl rfl rfl hb6) ?_
      refine kops_d rfl rfl (opv_move rfl rfl) ?_
      refine kops_split 33 rfl (fun hb9 => ?_) (fun hb9 => ?_)
      ·
        first | have hb9n := kb_nt hb9 | have hb9n := kb_nf hb9 | have hb9n := hb9
        first | have hb9m := of_decide_eq_true hb9n | have hb9m := of_decide_eq_false hb9n | have hb9m := kb_eq hb9n | have hb9m := kb_ne hb9n | have hb9m := kb_bne hb9n | have hb9m := kb_nbne hb9n | have hb9m := isIx_t hb9n | have hb9m := isIx_f hb9n | have hb9m := inR_t hb9n | have hb9m := inR_f hb9n | have hb9m := dec_tt hb9n | have hb9m := dec_ff hb9n | have hb9m := hb9n
        try simp only [List.get_eq_getElem] at hb9n
        try simp only [List.get_eq_getElem] at hb9m
        try (have hX : MineOk _ _ := hb9m; obtain ⟨hp1, hp5, hl7, haw⟩ := hX)
        try (have hX := haw k (by omega); obtain ⟨hf0, hf1, ht0, ht1, hft, hw1, hw6⟩ := hX)
        try have hbk := (show -9999999 ≤ gx fl k ∧ gx fl k ≤ 9999999 by omega)
        try have hb1 := flowOut_bd (m := k) hp1 (fun i hi => haw i (by omega)) hfit k (by omega) (gx l k).f.toNat (by omega)
        try have hb2 := flowMid_bd (m := k + 1) hp1 (fun i hi => haw i (by omega)) (upto hfit hbk) k (by omega) (gx l k).t.toNat (by omega)
        refine kops_skip rfl rfl rfl hb9 ?_
        refine kops_skip rfl rfl rfl hb9 ?_
        refine kops_skip rfl rfl rfl hb9 ?_
        refine kops_skip rfl rfl rfl hb9 ?_
        refine kops_skip rfl rfl rfl hb9 ?_
        refine kops_skip rfl rfl rfl hb9 ?_
        refine kops_d rfl rfl (opv_pick_t rfl rfl rfl hb9) ?_
        refine kops_nil ?_
        refine kn_then ?_
        refine kwp_cond_t rfl rfl ?_
        refine kwp_seq ?_
        refine kwp_region ?_
        refine kops_d rfl rfl (opv_assign rfl rfl) ?_
        refine kops_nil ?_
        refine kn_then ?_
        refine kwp_ret ?_
        refine kr_then ?_
        refine kret1 [] rfl rfl ?_ (by (repeat (first | exact Sub.refl _ | exact Sub.nil _ | refine Sub.chunk (by repeat (first | exact Pick.here | apply Pick.there)) (by first | rfl | (simp; done) | (congr 1; omega)) ?_)))
        first | exact ⟨vf (fun h => by first | exact absurd h.ok (by assumption) | exact absurd h.fit (by assumption) | (have h2 := h.i0; have h3 := h.i1; have h4 := h.o0; have h5 := h.o1; have h6 := h.fit.len; omega) | (have h6 := h.fit.fit k (by omega); omega)), rfl⟩ | exact ⟨vt ⟨⟨hp1, hp5, hl7, haw⟩, by omega, by omega, by omega, by omega, ⟨by omega, hfit⟩, fun v hv => (hiff v hv).1 (hall v (by omega))⟩, rfl⟩ | exact ⟨vf (fun h => by have hw := (hiff j (by omega)).2 (h.all j (by omega)); omega), rfl⟩ 
      ·
        first | have hb9n := kb_nt hb9 | have hb9n := kb_nf hb9 | have hb9n := hb9
        first | have hb9m := of_decide_eq_true hb9n | have hb9m := of_decide_eq_false hb9n | have hb9m := kb_eq hb9n | have hb9m := kb_ne hb9n | have hb9m := kb_bne hb9n | have hb9m := kb_nbne hb9n | have hb9m := isIx_t hb9n | have hb9m := isIx_f hb9n | have hb9m := inR_t hb9n | have hb9m := inR_f hb9n | have hb9m := dec_tt hb9n | have hb9m := dec_ff hb9n | have hb9m := hb9n
        try simp only [List.get_eq_getElem] at hb9n
        try simp only [List.get_eq_getElem] at hb9m
        try (have hX : MineOk _ _ := hb9m; obtain ⟨hp1, hp5, hl7, haw⟩ := hX)
        try (have hX := haw k (by omega); obtain ⟨hf0, hf1, ht0, ht1, hft, hw1, hw6⟩ := hX)
        try have hbk := (show -9999999 ≤ gx fl k ∧ gx fl k ≤ 9999999 by omega)
        try have hb1 := flowOut_bd (m := k) hp1 (fun i hi => haw i (by omega)) hfit k (by omega) (gx l k).f.toNat (by omega)
        try have hb2 := flowMid_bd (m := k + 1) hp1 (fun i hi => haw i (by omega)) (upto hfit hbk) k (by omega) (gx l k).t.toNat (by omega)
        refine kops_gd rfl rfl rfl hb9 rfl (opv_move rfl rfl) ?_
        refine kops_gd rfl rfl rfl hb9 rfl (opv_len rfl rfl rfl Try.runUnderlying39) ?_
        refine kops_gd rfl rfl rfl hb9 rfl (opv_fab rfl rfl fa_35_1 (by repeat (first | exact List.Mem.head _ | apply List.Mem.tail))) ?_
        refine kops_gd rfl rfl rfl hb9 rfl (opv_load rfl rfl Try.isAgg33 (by repeat (first | exact List.Mem.head _ | apply List.Mem.tail)) (by first | rfl | exact gx_map (by first | omega | (simp only [List.length_set, flowOut_len, flowM_len]; omega)) | (simp; done)) rfl) ?_
        refine kops_gd rfl rfl rfl hb9 rfl (opv_len rfl rfl rfl Try.runUnderlying33) ?_
        refine kops_gd rfl rfl rfl hb9 rfl (opv_cmp rfl rfl rfl rfl) ?_
        refine kops_d rfl rfl (opv_pick_f rfl rfl rfl hb9) ?_
        refine kops_nil ?_
        refine kn_then ?_
        refine kwp_cond rfl (fun hc11 => ?_) (fun hc11 => ?_)
        ·
          first | have hc11n := kb_nt hc11 | have hc11n := kb_nf hc11 | have hc11n := hc11
          first | have hc11m := of_decide_eq_true hc11n | have hc11m := of_decide_eq_false hc11n | have hc11m := kb_eq hc11n | have hc11m := kb_ne hc11n | have hc11m := kb_bne hc11n | have hc11m := kb_nbne hc11n | have hc11m := isIx_t hc11n | have hc11m := isIx_f hc11n | have hc11m := inR_t hc11n | have hc11m := inR_f hc11n | have hc11m := dec_tt hc11n | have hc11m := dec_ff hc11n | have hc11m := hc11n
          try simp only [List.get_eq_getElem] at hc11n
          try simp only [List.get_eq_getElem] at hc11m
          try (have hX : MineOk _ _ := hc11m; obtain ⟨hp1, hp5, hl7, haw⟩ := hX)
          try (have hX := haw k (by omega); obtain ⟨hf0, hf1, ht0, ht1, hft, hw1, hw6⟩ := hX)
          try have hbk := (show -9999999 ≤ gx fl k ∧ gx fl k ≤ 9999999 by omega)
          try have hb1 := flowOut_bd (m := k) hp1 (fun i hi => haw i (by omega)) hfit k (by omega) (gx l k).f.toNat (by omega)
          try have hb2 := flowMid_bd (m := k + 1) hp1 (fun i hi => haw i (by omega)) (upto hfit hbk) k (by omega) (gx l k).t.toNat (by omega)
          refine kwp_seq ?_
          refine kwp_region ?_
          refine kops_d rfl rfl (opv_assign rfl rfl) ?_
          refine kops_nil ?_
          refine kn_then ?_
          refine kwp_ret ?_
          refine kr_then ?_
          refine kret1 [] rfl rfl ?_ (by (repeat (first | exact Sub.refl _ | exact Sub.nil _ | refine Sub.chunk (by repeat (first | exact Pick.here | apply Pick.there)) (by first | rfl | (simp; done) | (congr 1; omega)) ?_)))
          first | exact ⟨vf (fun h => by first | exact absurd h.ok (by assumption) | exact absurd h.fit (by assumption) | (have h2 := h.i0; have h3 := h.i1; have h4 := h.o0; have h5 := h.o1; have h6 := h.fit.len; omega) | (have h6 := h.fit.fit k (by omega); omega)), rfl⟩ | exact ⟨vt ⟨⟨hp1, hp5, hl7, haw⟩, by omega, by omega, by omega, by omega, ⟨by omega, hfit⟩, fun v hv => (hiff v hv).1 (hall v (by omega))⟩, rfl⟩ | exact ⟨vf (fun h => by have hw := (hiff j (by omega)).2 (h.all j (by omega)); omega), rfl⟩ 
        ·
          first | have hc11n := kb_nt hc11 | have hc11n := kb_nf hc11 | have hc11n := hc11
          first | have hc11m := of_decide_eq_true hc11n | have hc11m := of_decide_eq_false hc11n | have hc11m := kb_eq hc11n | have hc11m := kb_ne hc11n | have hc11m := kb_bne hc11n | have hc11m := kb_nbne hc11n | have hc11m := isIx_t hc11n | have hc11m := isIx_f hc11n | have hc11m := inR_t hc11n | have hc11m := inR_f hc11n | have hc11m := dec_tt hc11n | have hc11m := dec_ff hc11n | have hc11m := hc11n
          try simp only [List.get_eq_getElem] at hc11n
          try simp only [List.get_eq_getElem] at hc11m
          try (have hX : MineOk _ _ := hc11m; obtain ⟨hp1, hp5, hl7, haw⟩ := hX)
          try (have hX := haw k (by omega); obtain ⟨hf0, hf1, ht0, ht1, hft, hw1, hw6⟩ := hX)
          try have hbk := (show -9999999 ≤ gx fl k ∧ gx fl k ≤ 9999999 by omega)
          try have hb1 := flowOut_bd (m := k) hp1 (fun i hi => haw i (by omega)) hfit k (by omega) (gx l k).f.toNat (by omega)
          try have hb2 := flowMid_bd (m := k + 1) hp1 (fun i hi => haw i (by omega)) (upto hfit hbk) k (by omega) (gx l k).t.toNat (by omega)
          refine kwp_skip ?_
          refine kn_then ?_
          refine kwp_seq ?_
          refine kwp_region ?_
          refine kops_d rfl rfl (opv_fab rfl rfl fa_35_0 (by repeat (first | exact List.Mem.head _ | apply List.Mem.tail))) ?_
          refine kops_d rfl rfl (opv_load rfl rfl Try.isAgg3 (by repeat (first | exact List.Mem.head _ | apply List.Mem.tail)) (by first | rfl | exact gx_map (by first | omega | (simp only [List.length_set, flowOut_len, flowM_len]; omega)) | (simp; done)) rfl) ?_
          refine kops_step rfl (opk_make (zs := [(.int .i64 0)]) rfl rfl rfl Try.underlying39 Try.type3 rfl rfl rfl rfl (by decide) (by omega) (show ((8 : Nat) : Int) * _ ≤ 281474976710656 by omega) (by omega) (fun a43 => ?_))
          refine kops_d rfl rfl (opv_assign rfl rfl) ?_
          refine kops_nil ?_
          refine kn_then ?_
          refine kwp_seq ?_
          refine kwp_seq ?_
          refine kwp_region ?_
          refine kops_d rfl rfl (opv_assign rfl rfl) ?_
          refine kops_nil ?_
          refine kn_then ?_
          refine kwp_block ?_
          refine kwp_loop1 (inv := [(1, _), (2, _), (3, _), (4, _), (5, _), (11, _)]) (ic := [⟨.pointer (some p5), _, _⟩])
            (fun (k : Nat) => [(12, .int .i64 k)])
            (fun (k : Nat) => [⟨.slice (some a43) p.toNat p.toNat, 1, (flowOut p.toNat l fl k).map encI⟩])
            (fun (k : Nat) => k ≤ l.length ∧ (∀ i, i < k → -9999999 ≤ gx fl i ∧ gx fl i ≤ 9999999))
            (fun (k : Nat) => l.length - k)
            ⟨0, ⟨by (exact ⟨by omega, fun i hi => by omega⟩), by (repeat (first | exact Knows.nil _ | refine Knows.cons2 rfl (by first | rfl | (simp [flowOut, encI]; done)) ?_)), by (repeat (first | exact Sub.refl _ | exact Sub.nil _ | refine Sub.chunk (by repeat (first | exact Pick.here | apply Pick.there)) (by first | rfl | (simp [flowOut, encI]; done)) ?_))⟩⟩ (fun k hp => ?_)
          obtain ⟨hk, hfit⟩ := hp
          refine kwp_seq ?_
          refine kwp_seq ?_
          refine kwp_region ?_
          refine kops_d rfl rfl (opv_move rfl rfl) ?_
          refine kops_d rfl rfl (opv_move rfl rfl) ?_
          refine kops_d rfl rfl (opv_len rfl rfl rfl Try.runUnderlying39) ?_
          refine kops_d rfl rfl (opv_cmp rfl rfl rfl rfl) ?_
          refine kops_nil ?_
          refine kn_then ?_
          refine kwp_cond rfl (fun hc13 => ?_) (fun hc13 => ?_)
          ·
            first | have hc13n := kb_nt hc13 | have hc13n := kb_nf hc13 | have hc13n := hc13
            first | have hc13m := of_decide_eq_true hc13n | have hc13m := of_decide_eq_false hc13n | have hc13m := kb_eq hc13n | have hc13m := kb_ne hc13n | have hc13m := kb_bne hc13n | have hc13m := kb_nbne hc13n | have hc13m := isIx_t hc13n | have hc13m := isIx_f hc13n | have hc13m := inR_t hc13n | have hc13m := inR_f hc13n | have hc13m := dec_tt hc13n | have hc13m := dec_ff hc13n | have hc13m := hc13n
            try simp only [List.get_eq_getElem] at hc13n
            try simp only [List.get_eq_getElem] at hc13m
            try (have hX : MineOk _ _ := hc13m; obtain ⟨hp1, hp5, hl7, haw⟩ := hX)
            try (have hX := haw k (by omega); obtain ⟨hf0, hf1, ht0, ht1, hft, hw1, hw6⟩ := hX)
            try have hbk := (show -9999999 ≤ gx fl k ∧ gx fl k ≤ 9999999 by omega)
            try have hb1 := flowOut_bd (m := k) hp1 (fun i hi => haw i (by omega)) hfit k (by omega) (gx l k).f.toNat (by omega)
            try have hb2 := flowMid_bd (m := k + 1) hp1 (fun i hi => haw i (by omega)) (upto hfit hbk) k (by omega) (gx l k).t.toNat (by omega)
            refine kwp_skip ?_
            refine kn_then ?_
            refine kwp_seq ?_
            refine kwp_block ?_
            refine kwp_seq ?_
            refine kwp_seq ?_
            refine kwp_region ?_
            refine kops_d rfl rfl (opv_move rfl rfl) ?_
            refine kops_d rfl rfl (opv_move rfl rfl) ?_
            refine kops_d rfl rfl (opv_ia rfl rfl rfl Try.runUnderlying39 Try.sizeOf3 (by repeat (first | exact List.Mem.head _ | apply List.Mem.tail)) (by first | rfl | exact (Int.toNat_of_nonneg (by omega)).symm) (by first | omega | (simp only [List.length_map]; omega) | (simp only [List.length_set, List.length_map, flowOut_len, flowM_len]; omega) | (simp; omega) | (simp; done))) ?_
            refine kops_d rfl rfl (opv_load rfl rfl Try.isAgg3 (by repeat (first | exact List.Mem.head _ | apply List.Mem.tail)) (by first | rfl | exact gx_map (by first | omega | (simp only [List.length_set, flowOut_len, flowM_len]; omega)) | (simp; done)) rfl) ?_
            refine kops_step rfl (opk_call rfl Try.call56 rfl (c_spec_l1In _ _ _) ((perm_nil _)) ((Views.nil _)) ?_)
            rintro _ _ ⟨rfl, rfl⟩
            refine kops_d rfl rfl (opv_not rfl rfl) ?_
            refine kops_nil ?_
            refine kn_then ?_
            refine kwp_cond rfl (fun hc16 => ?_) (fun hc16 => ?_)
            ·
              first | have hc16n := kb_nt hc16 | have hc16n := kb_nf hc16 | have hc16n := hc16
              first | have hc16m := of_decide_eq_true hc16n | have hc16m := of_decide_eq_false hc16n | have hc16m := kb_eq hc16n | have hc16m := kb_ne hc16n | have hc16m := kb_bne hc16n | have hc16m := kb_nbne hc16n | have hc16m := isIx_t hc16n | have hc16m := isIx_f hc16n | have hc16m := inR_t hc16n | have hc16m := inR_f hc16n | have hc16m := dec_tt hc16n | have hc16m := dec_ff hc16n | have hc16m := hc16n
              try simp only [List.get_eq_getElem] at hc16n
              try simp only [List.get_eq_getElem] at hc16m
              try (have hX : MineOk _ _ := hc16m; obtain ⟨hp1, hp5, hl7, haw⟩ := hX)
              try (have hX := haw k (by omega); obtain ⟨hf0, hf1, ht0, ht1, hft, hw1, hw6⟩ := hX)
              try have hbk := (show -9999999 ≤ gx fl k ∧ gx fl k ≤ 9999999 by omega)
              try have hb1 := flowOut_bd (m := k) hp1 (fun i hi => haw i (by omega)) hfit k (by omega) (gx l k).f.toNat (by omega)
              try have hb2 := flowMid_bd (m := k + 1) hp1 (fun i hi => haw i (by omega)) (upto hfit hbk) k (by omega) (gx l k).t.toNat (by omega)
              refine kwp_seq ?_
              refine kwp_region ?_
              refine kops_d rfl rfl (opv_assign rfl rfl) ?_
              refine kops_nil ?_
              refine kn_then ?_
              refine kwp_ret ?_
              refine kr_then ?_
              refine kr_block ?_
              refine kr_then ?_
              refine kr_then ?_
              refine kr_block ?_
              refine kr_then ?_
              refine kret1 [] rfl rfl ?_ (by (repeat (first | exact Sub.refl _ | exact Sub.nil _ | refine Sub.chunk (by repeat (first | exact Pick.here | apply Pick.there)) (by first | rfl | (simp; done) | (congr 1; omega)) ?_)))
              first | exact ⟨vf (fun h => by first | exact absurd h.ok (by assumption) | exact absurd h.fit (by assumption) | (have h2 := h.i0; have h3 := h.i1; have h4 := h.o0; have h5 := h.o1; have h6 := h.fit.len; omega) | (have h6 := h.fit.fit k (by omega); omega)), rfl⟩ | exact ⟨vt ⟨⟨hp1, hp5, hl7, haw⟩, by omega, by omega, by omega, by omega, ⟨by omega, hfit⟩, fun v hv => (hiff v hv).1 (hall v (by omega))⟩, rfl⟩ | exact ⟨vf (fun h => by have hw := (hiff j (by omega)).2 (h.all j (by omega)); omega), rfl⟩ 
            ·
              first | have hc16n := kb_nt hc16 | have hc16n := kb_nf hc16 | have hc16n := hc16
              first | have hc16m := of_decide_eq_true hc16n | have hc16m := of_decide_eq_false hc16n | have hc16m := kb_eq hc16n | have hc16m := kb_ne hc16n | have hc16m := kb_bne hc16n | have hc16m := kb_nbne hc16n | have hc16m := isIx_t hc16n | have hc16m := isIx_f hc16n | have hc16m := inR_t hc16n | have hc16m := inR_f hc16n | have hc16m := dec_tt hc16n | have hc16m := dec_ff hc16n | have hc16m := hc16n
              try simp only [List.get_eq_getElem] at hc16n
              try simp only [List.get_eq_getElem] at hc16m
              try (have hX : MineOk _ _ := hc16m; obtain ⟨hp1, hp5, hl7, haw⟩ := hX)
              try (have hX := haw k (by omega); obtain ⟨hf0, hf1, ht0, ht1, hft, hw1, hw6⟩ := hX)
              try have hbk := (show -9999999 ≤ gx fl k ∧ gx fl k ≤ 9999999 by omega)
              try have hb1 := flowOut_bd (m := k) hp1 (fun i hi => haw i (by omega)) hfit k (by omega) (gx l k).f.toNat (by omega)
              try have hb2 := flowMid_bd (m := k + 1) hp1 (fun i hi => haw i (by omega)) (upto hfit hbk) k (by omega) (gx l k).t.toNat (by omega)
              refine kwp_skip ?_
              refine kn_then ?_
              refine kwp_seq ?_
              refine kwp_draw [(0, true), (1, true), (2, true), (3, true), (4, true), (5, true), (6, true), (7, true), (8, true), (9, true), (10, true), (11, true), (12, true), (13, true), (14, true), (15, true), (16, true), (17, true), (18, true), (19, true), (20, true), (21, true), (22, false)] [22] _ drawMixed (by kernel_rfl) (fun _ _ _ h => h) (Sub.refl _) ?_
              refine ks_d rfl rfl rfl (opv_move rfl rfl) ?_
              refine ks_d rfl rfl rfl (opv_fab rfl rfl fa_35_1 (by repeat (first | exact List.Mem.head _ | apply List.Mem.tail))) ?_
              refine ks_d rfl rfl rfl (opv_load rfl rfl Try.isAgg33 (by repeat (first | exact List.Mem.head _ | apply List.Mem.tail)) (by first | rfl | exact gx_map (by first | omega | (simp only [List.length_set, flowOut_len, flowM_len]; omega)) | (simp; done)) rfl) ?_
              refine ks_d rfl rfl rfl (opv_move rfl rfl) ?_
              refine ks_d rfl rfl rfl (opv_ia rfl rfl rfl Try.runUnderlying33 Try.sizeOf77 (by repeat (first | exact List.Mem.head _ | apply List.Mem.tail)) (by first | rfl | exact (Int.toNat_of_nonneg (by omega)).symm) (by first | omega | (simp only [List.length_map]; omega) | (simp only [List.length_set, List.length_map, flowOut_len, flowM_len]; omega) | (simp; omega) | (simp; done))) ?_
              refine ks_d rfl rfl rfl (opv_fa rfl rfl fa_77_0 (by repeat (first | exact List.Mem.head _ | apply List.Mem.tail)) (by first | omega | (simp only [List.length_map]; omega) | (simp only [List.length_set, List.length_map, flowOut_len, flowM_len]; omega) | (simp; omega) | (simp; done))) ?_
              refine ks_d rfl rfl rfl (opv_load rfl rfl Try.isAgg3 (by repeat (first | exact List.Mem.head _ | apply List.Mem.tail)) (by first | rfl | exact gx_map (by first | omega | (simp only [List.length_set, flowOut_len, flowM_len]; omega)) | (simp; done)) rfl) ?_
              refine ks_d rfl rfl rfl (opv_move rfl rfl) ?_
              refine ks_d rfl rfl rfl (opv_fab rfl rfl fa_35_1 (by repeat (first | exact List.Mem.head _ | apply List.Mem.tail))) ?_
              refine ks_d rfl rfl rfl (opv_load rfl rfl Try.isAgg33 (by repeat (first | exact List.Mem.head _ | apply List.Mem.tail)) (by first | rfl | exact gx_map (by first | omega | (simp only [List.length_set, flowOut_len, flowM_len]; omega)) | (simp; done)) rfl) ?_
              refine ks_d rfl rfl rfl (opv_move rfl rfl) ?_
              refine ks_d rfl rfl rfl (opv_ia rfl rfl rfl Try.runUnderlying33 Try.sizeOf77 (by repeat (first | exact List.Mem.head _ | apply List.Mem.tail)) (by first | rfl | exact (Int.toNat_of_nonneg (by omega)).symm) (by first | omega | (simp only [List.length_map]; omega) | (simp only [List.length_set, List.length_map, flowOut_len, flowM_len]; omega) | (simp; omega) | (simp; done))) ?_
              refine ks_d rfl rfl rfl (opv_fa rfl rfl fa_77_0 (by repeat (first | exact List.Mem.head _ | apply List.Mem.tail)) (by first | omega | (simp only [List.length_map]; omega) | (simp only [List.length_set, List.length_map, flowOut_len, flowM_len]; omega) | (simp; omega) | (simp; done))) ?_
              refine ks_d rfl rfl rfl (opv_load rfl rfl Try.isAgg3 (by repeat (first | exact List.Mem.head _ | apply List.Mem.tail)) (by first | rfl | exact gx_map (by first | omega | (simp only [List.length_set, flowOut_len, flowM_len]; omega)) | (simp; done)) rfl) ?_
              refine ks_d rfl rfl rfl (opv_ia rfl rfl rfl Try.runUnderlying39 Try.sizeOf3 (by repeat (first | exact List.Mem.head _ | apply List.Mem.tail)) (by first | rfl | exact (Int.toNat_of_nonneg (by omega)).symm) (by first | omega | (simp only [List.length_map]; omega) | (simp only [List.length_set, List.length_map, flowOut_len, flowM_len]; omega) | (simp; omega) | (simp; done))) ?_
              refine ks_d rfl rfl rfl (opv_load rfl rfl Try.isAgg3 (by repeat (first | exact List.Mem.head _ | apply List.Mem.tail)) (by first | rfl | exact gx_map (by first | omega | (simp only [List.length_set, flowOut_len, flowM_len]; omega)) | (simp; done)) rfl) ?_
              refine ks_d rfl rfl rfl (opv_move rfl rfl) ?_
              refine ks_d rfl rfl rfl (opv_move rfl rfl) ?_
              refine ks_d rfl rfl rfl (opv_ia rfl rfl rfl Try.runUnderlying39 Try.sizeOf3 (by repeat (first | exact List.Mem.head _ | apply List.Mem.tail)) (by first | rfl | exact (Int.toNat_of_nonneg (by omega)).symm) (by first | omega | (simp only [List.length_map]; omega) | (simp only [List.length_set, List.length_map, flowOut_len, flowM_len]; omega) | (simp; omega) | (simp; done))) ?_
              refine ks_d rfl rfl rfl (opv_load rfl rfl Try.isAgg3 (by repeat (first | exact List.Mem.head _ | apply List.Mem.tail)) (by first | rfl | exact gx_map (by first | omega | (simp only [List.length_set, flowOut_len, flowM_len]; omega)) | (simp; done)) rfl) ?_
              refine ks_d rfl rfl rfl (by first | exact opv_add rfl rfl rfl ⟨by omega, by omega⟩ | exact opv_ari rfl rfl rfl rfl) ?_
              refine ks_d rfl rfl rfl (opv_ia rfl rfl rfl Try.runUnderlying39 Try.sizeOf3 (by repeat (first | exact List.Mem.head _ | apply List.Mem.tail)) (by first | rfl | exact (Int.toNat_of_nonneg (by omega)).symm) (by first | omega | (simp only [List.length_map]; omega) | (simp only [List.length_set, List.length_map, flowOut_len, flowM_len]; omega) | (simp; omega) | (simp; done))) ?_
              first | refine ks_k rfl rfl (opk_store_i rfl rfl rfl Try.sizeOf3 (by repeat (first | exact Upd.here | apply Upd.there)) (by first | omega | (simp only [List.length_map]; omega) | (simp only [List.length_set, List.length_map, flowOut_len, flowM_len]; omega) | (simp; omega) | (simp; done)) ?_) | refine ks_k rfl rfl (opk_store rfl rfl rfl Try.sizeOf3 rfl (by repeat (first | exact Upd.here | apply Upd.there)) (by first | rfl | exact gx_map (by first | omega | (simp only [List.length_set, flowOut_len, flowM_len]; omega)) | (simp; done)) (by decide) ?_)
              refine ⟨.inr ⟨by decide, rfl⟩, ?_⟩
              refine ks_nil ?_
              refine kn_then ?_
              refine kwp_draw [(0, true), (1, true), (2, true), (3, true), (4, true), (5, true), (6, true), (7, true), (8, true), (9, true), (10, true), (11, true), (12, true), (13, true), (14, true), (15, true), (16, true), (17, true), (18, true), (19, true), (20, true), (21, true), (22, false)] [22] _ drawMixed (by kernel_rfl) (fun _ _ _ h => h) (Sub.refl _) ?_
              refine ks_d rfl rfl rfl (opv_move rfl rfl) ?_
              refine ks_d rfl rfl rfl (opv_fab rfl rfl fa_35_1 (by repeat (first | exact List.Mem.head _ | apply List.Mem.tail))) ?_
              refine ks_d rfl rfl rfl (opv_load rfl rfl Try.isAgg33 (by repeat (first | exact List.Mem.head _ | apply List.Mem.tail)) (by first | rfl | exact gx_map (by first | omega | (simp only [List.length_set, flowOut_len, flowM_len]; omega)) | (simp; done)) rfl) ?_
              refine ks_d rfl rfl rfl (opv_move rfl rfl) ?_
              refine ks_d rfl rfl rfl (opv_ia rfl rfl rfl Try.runUnderlying33 Try.sizeOf77 (by repeat (first | exact List.Mem.head _ | apply List.Mem.tail)) (by first | rfl | exact (Int.toNat_of_nonneg (by omega)).symm) (by first | omega | (simp only [List.length_map]; omega) | (simp only [List.length_set, List.length_map, flowOut_len, flowM_len]; omega) | (simp; omega) | (simp; done))) ?_
              refine ks_d rfl rfl rfl (opv_fa rfl rfl fa_77_1 (by repeat (first | exact List.Mem.head _ | apply List.Mem.tail)) (by first | omega | (simp only [List.length_map]; omega) | (simp only [List.length_set, List.length_map, flowOut_len, flowM_len]; omega) | (simp; omega) | (simp; done))) ?_
              refine ks_d rfl rfl rfl (opv_load rfl rfl Try.isAgg3 (by repeat (first | exact List.Mem.head _ | apply List.Mem.tail)) (by first | rfl | exact gx_map (by first | omega | (simp only [List.length_set, flowOut_len, flowM_len]; omega)) | (simp; done)) rfl) ?_
              refine ks_d rfl rfl rfl (opv_move rfl rfl) ?_
              refine ks_d rfl rfl rfl (opv_fab rfl rfl fa_35_1 (by repeat (first | exact List.Mem.head _ | apply List.Mem.tail))) ?_
              refine ks_d rfl rfl rfl (opv_load rfl rfl Try.isAgg33 (by repeat (first | exact List.Mem.head _ | apply List.Mem.tail)) (by first | rfl | exact gx_map (by first | omega | (simp only [List.length_set, flowOut_len, flowM_len]; omega)) | (simp; done)) rfl) ?_
              refine ks_d rfl rfl rfl (opv_move rfl rfl) ?_
              refine ks_d rfl rfl rfl (opv_ia rfl rfl rfl Try.runUnderlying33 Try.sizeOf77 (by repeat (first | exact List.Mem.head _ | apply List.Mem.tail)) (by first | rfl | exact (Int.toNat_of_nonneg (by omega)).symm) (by first | omega | (simp only [List.length_map]; omega) | (simp only [List.length_set, List.length_map, flowOut_len, flowM_len]; omega) | (simp; omega) | (simp; done))) ?_
              refine ks_d rfl rfl rfl (opv_fa rfl rfl fa_77_1 (by repeat (first | exact List.Mem.head _ | apply List.Mem.tail)) (by first | omega | (simp only [List.length_map]; omega) | (simp only [List.length_set, List.length_map, flowOut_len, flowM_len]; omega) | (simp; omega) | (simp; done))) ?_
              refine ks_d rfl rfl rfl (opv_load rfl rfl Try.isAgg3 (by repeat (first | exact List.Mem.head _ | apply List.Mem.tail)) (by first | rfl | exact gx_map (by first | omega | (simp only [List.length_set, flowOut_len, flowM_len]; omega)) | (simp; done)) rfl) ?_
              refine ks_d rfl rfl rfl (opv_ia rfl rfl rfl Try.runUnderlying39 Try.sizeOf3 (by repeat (first | exact List.Mem.head _ | apply List.Mem.tail)) (by first | rfl | exact (Int.toNat_of_nonneg (by omega)).symm) (by first | omega | (simp only [List.length_map]; omega) | (simp only [List.length_set, List.length_map, flowOut_len, flowM_len]; omega) | (simp; omega) | (simp; done))) ?_
              refine ks_d rfl rfl rfl (opv_load rfl rfl Try.isAgg3 (by repeat (first | exact List.Mem.head _ | apply List.Mem.tail)) (by first | rfl | exact gx_map (by first | omega | (simp only [List.length_set, flowOut_len, flowM_len]; omega)) | (simp; done)) rfl) ?_
              refine ks_d rfl rfl rfl (opv_move rfl rfl) ?_
              refine ks_d rfl rfl rfl (opv_move rfl rfl) ?_
              refine ks_d rfl rfl rfl (opv_ia rfl rfl rfl Try.runUnderlying39 Try.sizeOf3 (by repeat (first | exact List.Mem.head _ | apply List.Mem.tail)) (by first | rfl | exact (Int.toNat_of_nonneg (by omega)).symm) (by first | omega | (simp only [List.length_map]; omega) | (simp only [List.length_set, List.length_map, flowOut_len, flowM_len]; omega) | (simp; omega) | (simp; done))) ?_
              refine ks_d rfl rfl rfl (opv_load rfl rfl Try.isAgg3 (by repeat (first | exact List.Mem.head _ | apply List.Mem.tail)) (by first | rfl | exact gx_map (by first | omega | (simp only [List.length_set, flowOut_len, flowM_len]; omega)) | (simp; done)) rfl) ?_
              refine ks_d rfl rfl rfl (by first | exact opv_sub rfl rfl rfl ⟨by omega, by omega⟩ | exact opv_ari rfl rfl rfl rfl) ?_
              refine ks_d rfl rfl rfl (opv_ia rfl rfl rfl Try.runUnderlying39 Try.sizeOf3 (by repeat (first | exact List.Mem.head _ | apply List.Mem.tail)) (by first | rfl | exact (Int.toNat_of_nonneg (by omega)).symm) (by first | omega | (simp only [List.length_map]; omega) | (simp only [List.length_set, List.length_map, flowOut_len, flowM_len]; omega) | (simp; omega) | (simp; done))) ?_
              first | refine ks_k rfl rfl (opk_store_i rfl rfl rfl Try.sizeOf3 (by repeat (first | exact Upd.here | apply Upd.there)) (by first | omega | (simp only [List.length_map]; omega) | (simp only [List.length_set, List.length_map, flowOut_len, flowM_len]; omega) | (simp; omega) | (simp; done)) ?_) | refine ks_k rfl rfl (opk_store rfl rfl rfl Try.sizeOf3 rfl (by repeat (first | exact Upd.here | apply Upd.there)) (by first | rfl | exact gx_map (by first | omega | (simp only [List.length_set, flowOut_len, flowM_len]; omega)) | (simp; done)) (by decide) ?_)
              refine ⟨.inr ⟨by decide, rfl⟩, ?_⟩
              refine ks_nil ?_
              refine kn_block ?_
              refine kn_then ?_
              refine kwp_region ?_
              refine kops_d rfl rfl (opv_move rfl rfl) ?_
              refine kops_d rfl rfl (by first | exact opv_add rfl rfl rfl ⟨by omega, by omega⟩ | exact opv_ari rfl rfl rfl rfl) ?_
              refine kops_d rfl rfl (opv_assign rfl rfl) ?_
              refine kops_nil ?_
              refine kn_then ?_
              exact ⟨k + 1, ⟨by (exact ⟨by omega, upto hfit (by omega)⟩), by (repeat (first | exact Knows.nil _ | refine Knows.cons2 rfl (by first | rfl | (simp; done) | (congr 1; omega)) ?_)), by (repeat (first | exact Sub.refl _ | exact Sub.nil _ | refine Sub.chunk (by repeat (first | exact Pick.here | apply Pick.there)) (by first | rfl | (simp; done) | (congr 1; omega)) ?_))⟩, by omega⟩
          ·
            first | have hc13n := kb_nt hc13 | have hc13n := kb_nf hc13 | have hc13n := hc13
            first | have hc13m := of_decide_eq_true hc13n | have hc13m := of_decide_eq_false hc13n | have hc13m := kb_eq hc13n | have hc13m := kb_ne hc13n | have hc13m := kb_bne hc13n | have hc13m := kb_nbne hc13n | have hc13m := isIx_t hc13n | have hc13m := isIx_f hc13n | have hc13m := inR_t hc13n | have hc13m := inR_f hc13n | have hc13m := dec_tt hc13n | have hc13m := dec_ff hc13n | have hc13m := hc13n
            try simp only [List.get_eq_getElem] at hc13n
            try simp only [List.get_eq_getElem] at hc13m
            try (have hX : MineOk _ _ := hc13m; obtain ⟨hp1, hp5, hl7, haw⟩ := hX)
            try (have hX := haw k (by omega); obtain ⟨hf0, hf1, ht0, ht1, hft, hw1, hw6⟩ := hX)
            try have hbk := (show -9999999 ≤ gx fl k ∧ gx fl k ≤ 9999999 by omega)
            try have hb1 := flowOut_bd (m := k) hp1 (fun i hi => haw i (by omega)) hfit k (by omega) (gx l k).f.toNat (by omega)
            try have hb2 := flowMid_bd (m := k + 1) hp1 (fun i hi => haw i (by omega)) (upto hfit hbk) k (by omega) (gx l k).t.toNat (by omega)
            refine kwp_exit ?_
            refine ke_then ?_
            refine ke_then ?_
            refine ke_block ?_
            refine kn_then ?_
            refine kwp_seq ?_
            refine kwp_region ?_
            refine kops_d rfl rfl (opv_move rfl rfl) ?_
            refine kops_d rfl rfl (opv_move rfl rfl) ?_
            refine kops_d rfl rfl (opv_move rfl rfl) ?_
            refine kops_d rfl rfl (opv_move rfl rfl) ?_
            refine kops_d rfl rfl (opv_ia rfl rfl rfl Try.runUnderlying39 Try.sizeOf3 (by repeat (first | exact List.Mem.head _ | apply List.Mem.tail)) (by first | rfl | exact (Int.toNat_of_nonneg (by omega)).symm) (by first | omega | (simp only [List.length_map]; omega) | (simp only [List.length_set, List.length_map, flowOut_len, flowM_len]; omega) | (simp; omega) | (simp; done))) ?_
            refine kops_d rfl rfl (opv_load rfl rfl Try.isAgg3 (by repeat (first | exact List.Mem.head _ | apply List.Mem.tail)) (by first | rfl | exact gx_map (by first | omega | (simp only [List.length_set, flowOut_len, flowM_len]; omega)) | (simp; done)) rfl) ?_
            refine kops_d rfl rfl (opv_move rfl rfl) ?_
            refine kops_d rfl rfl (by first | exact opv_sub rfl rfl rfl ⟨by omega, by omega⟩ | exact opv_ari rfl rfl rfl rfl) ?_
            refine kops_d rfl rfl (opv_ia rfl rfl rfl Try.runUnderlying39 Try.sizeOf3 (by repeat (first | exact List.Mem.head _ | apply List.Mem.tail)) (by first | rfl | exact (Int.toNat_of_nonneg (by omega)).symm) (by first | omega | (simp only [List.length_map]; omega) | (simp only [List.length_set, List.length_map, flowOut_len, flowM_len]; omega) | (simp; omega) | (simp; done))) ?_
            first | refine kops_step rfl (opk_store_i rfl rfl rfl Try.sizeOf3 (by repeat (first | exact Upd.here | apply Upd.there)) (by first | omega | (simp only [List.length_map]; omega) | (simp only [List.length_set, List.length_map, flowOut_len, flowM_len]; omega) | (simp; omega) | (simp; done)) ?_) | refine kops_step rfl (opk_store rfl rfl rfl Try.sizeOf3 rfl (by repeat (first | exact Upd.here | apply Upd.there)) (by first | rfl | exact gx_map (by first | omega | (simp only [List.length_set, flowOut_len, flowM_len]; omega)) | (simp; done)) (by decide) ?_)
            refine kops_nil ?_
            refine kn_then ?_
            refine kwp_seq ?_
            refine kwp_region ?_
            refine kops_d rfl rfl (opv_move rfl rfl) ?_
            refine kops_d rfl rfl (opv_move rfl rfl) ?_
            refine kops_d rfl rfl (opv_move rfl rfl) ?_
            refine kops_d rfl rfl (opv_move rfl rfl) ?_
            refine kops_d rfl rfl (opv_ia rfl rfl rfl Try.runUnderlying39 Try.sizeOf3 (by repeat (first | exact List.Mem.head _ | apply List.Mem.tail)) (by first | rfl | exact (Int.toNat_of_nonneg (by omega)).symm) (by first | omega | (simp only [List.length_map]; omega) | (simp only [List.length_set, List.length_map, flowOut_len, flowM_len]; omega) | (simp; omega) | (simp; done))) ?_
            refine kops_d rfl rfl (opv_load rfl rfl Try.isAgg3 (by repeat (first | exact List.Mem.head _ | apply List.Mem.tail)) (by first | rfl | exact gx_map (by first | omega | (simp only [List.length_set, flowOut_len, flowM_len]; omega)) | (simp; done)) rfl) ?_
            refine kops_d rfl rfl (opv_move rfl rfl) ?_
            refine kops_d rfl rfl (by first | exact opv_add rfl rfl rfl ⟨by omega, by omega⟩ | exact opv_ari rfl rfl rfl rfl) ?_
            refine kops_d rfl rfl (opv_ia rfl rfl rfl Try.runUnderlying39 Try.sizeOf3 (by repeat (first | exact List.Mem.head _ | apply List.Mem.tail)) (by first | rfl | exact (Int.toNat_of_nonneg (by omega)).symm) (by first | omega | (simp only [List.length_map]; omega) | (simp only [List.length_set, List.length_map, flowOut_len, flowM_len]; omega) | (simp; omega) | (simp; done))) ?_
            first | refine kops_step rfl (opk_store_i rfl rfl rfl Try.sizeOf3 (by repeat (first | exact Upd.here | apply Upd.there)) (by first | omega | (simp only [List.length_map]; omega) | (simp only [List.length_set, List.length_map, flowOut_len, flowM_len]; omega) | (simp; omega) | (simp; done)) ?_) | refine kops_step rfl (opk_store rfl rfl rfl Try.sizeOf3 rfl (by repeat (first | exact Upd.here | apply Upd.there)) (by first | rfl | exact gx_map (by first | omega | (simp only [List.length_set, flowOut_len, flowM_len]; omega)) | (simp; done)) (by decide) ?_)
            refine kops_nil ?_
            refine kn_then ?_
            refine kwp_seq ?_
            refine kwp_seq ?_
            refine kwp_region ?_
            refine kops_d rfl rfl (opv_assign rfl rfl) ?_
            refine kops_nil ?_
            refine kn_then ?_
            refine kwp_block ?_
            obtain rfl : k = l.length := by omega
            have hiff := flowM_iff (p := p) (i := i) (o := o) (amt := amt) hp1 hl7 haw hfit ⟨by omega, by omega⟩ ⟨by omega, by omega⟩ ha
            refine kwp_loop1 (inv := [(11, _)]) (ic := [])
              (fun (j : Nat) => [(13, .int .i64 j)])
              (fun (j : Nat) => [⟨.slice (some a43) p.toNat p.toNat, 1, (flowM (flowOut p.toNat l fl l.length) i o amt).map encI⟩])
              (fun (j : Nat) => j ≤ p.toNat ∧ (∀ v, v < j → gx (flowM (flowOut p.toNat l fl l.length) i o amt) v = 0))
              (fun (j : Nat) => p.toNat - j)
              ⟨0, ⟨by (exact ⟨by omega, fun i hi => by omega⟩), by (repeat (first | exact Knows.nil _ | refine Knows.cons2 rfl (by first | rfl | (simp; done) | (congr 1; omega)) ?_)), by (repeat (first | exact Sub.refl _ | exact Sub.nil _ | refine Sub.chunk (by repeat (first | exact Pick.here | apply Pick.there)) (by first | rfl | (simp; done) | (congr 1; omega)) ?_))⟩⟩ (fun j hp => ?_)
            obtain ⟨hj, hall⟩ := hp
            refine kwp_seq ?_
            refine kwp_seq ?_
            refine kwp_region ?_
            refine kops_d rfl rfl (opv_move rfl rfl) ?_
            refine kops_d rfl rfl (opv_move rfl rfl) ?_
            refine kops_d rfl rfl (opv_len rfl rfl rfl Try.runUnderlying39) ?_
            refine kops_d rfl rfl (opv_cmp rfl rfl rfl rfl) ?_
            refine kops_nil ?_
            refine kn_then ?_
            refine kwp_cond rfl (fun hc18 => ?_) (fun hc18 => ?_)
            ·
              first | have hc18n := kb_nt hc18 | have hc18n := kb_nf hc18 | have hc18n := hc18
              first | have hc18m := of_decide_eq_true hc18n | have hc18m := of_decide_eq_false hc18n | have hc18m := kb_eq hc18n | have hc18m := kb_ne hc18n | have hc18m := kb_bne hc18n | have hc18m := kb_nbne hc18n | have hc18m := isIx_t hc18n | have hc18m := isIx_f hc18n | have hc18m := inR_t hc18n | have hc18m := inR_f hc18n | have hc18m := dec_tt hc18n | have hc18m := dec_ff hc18n | have hc18m := hc18n
              try simp only [List.get_eq_getElem] at hc18n
              try simp only [List.get_eq_getElem] at hc18m
              try (have hX : MineOk _ _ := hc18m; obtain ⟨hp1, hp5, hl7, haw⟩ := hX)
              try (have hX := haw k (by omega); obtain ⟨hf0, hf1, ht0, ht1, hft, hw1, hw6⟩ := hX)
              try have hbk := (show -9999999 ≤ gx fl k ∧ gx fl k ≤ 9999999 by omega)
              try have hb1 := flowOut_bd (m := k) hp1 (fun i hi => haw i (by omega)) hfit k (by omega) (gx l k).f.toNat (by omega)
              try have hb2 := flowMid_bd (m := k + 1) hp1 (fun i hi => haw i (by omega)) (upto hfit hbk) k (by omega) (gx l k).t.toNat (by omega)
              refine kwp_skip ?_
              refine kn_then ?_
              refine kwp_seq ?_
              refine kwp_block ?_
              refine kwp_seq ?_
              refine kwp_region ?_
              refine kops_d rfl rfl (opv_move rfl rfl) ?_
              refine kops_d rfl rfl (opv_move rfl rfl) ?_
              refine kops_d rfl rfl (opv_ia rfl rfl rfl Try.runUnderlying39 Try.sizeOf3 (by repeat (first | exact List.Mem.head _ | apply List.Mem.tail)) (by first | rfl | exact (Int.toNat_of_nonneg (by omega)).symm) (by first | omega | (simp only [List.length_map]; omega) | (simp only [List.length_set, List.length_map, flowOut_len, flowM_len]; omega) | (simp; omega) | (simp; done))) ?_
              refine kops_d rfl rfl (opv_load rfl rfl Try.isAgg3 (by repeat (first | exact List.Mem.head _ | apply List.Mem.tail)) (by first | rfl | exact gx_map (by first | omega | (simp only [List.length_set, flowOut_len, flowM_len]; omega)) | (simp; done)) rfl) ?_
              refine kops_d rfl rfl (opv_cmp rfl rfl rfl rfl) ?_
              refine kops_nil ?_
              refine kn_then ?_
              refine kwp_cond rfl (fun hc20 => ?_) (fun hc20 => ?_)
              ·
                first | have hc20n := kb_nt hc20 | have hc20n := kb_nf hc20 | have hc20n := hc20
                first | have hc20m := of_decide_eq_true hc20n | have hc20m := of_decide_eq_false hc20n | have hc20m := kb_eq hc20n | have hc20m := kb_ne hc20n | have hc20m := kb_bne hc20n | have hc20m := kb_nbne hc20n | have hc20m := isIx_t hc20n | have hc20m := isIx_f hc20n | have hc20m := inR_t hc20n | have hc20m := inR_f hc20n | have hc20m := dec_tt hc20n | have hc20m := dec_ff hc20n | have hc20m := hc20n
                try simp only [List.get_eq_getElem] at hc20n
                try simp only [List.get_eq_getElem] at hc20m
                try (have hX : MineOk _ _ := hc20m; obtain ⟨hp1, hp5, hl7, haw⟩ := hX)
                try (have hX := haw k (by omega); obtain ⟨hf0, hf1, ht0, ht1, hft, hw1, hw6⟩ := hX)
                try have hbk := (show -9999999 ≤ gx fl k ∧ gx fl k ≤ 9999999 by omega)
                try have hb1 := flowOut_bd (m := k) hp1 (fun i hi => haw i (by omega)) hfit k (by omega) (gx l k).f.toNat (by omega)
                try have hb2 := flowMid_bd (m := k + 1) hp1 (fun i hi => haw i (by omega)) (upto hfit hbk) k (by omega) (gx l k).t.toNat (by omega)
                refine kwp_seq ?_
                refine kwp_region ?_
                refine kops_d rfl rfl (opv_assign rfl rfl) ?_
                refine kops_nil ?_
                refine kn_then ?_
                refine kwp_ret ?_
                refine kr_block ?_
                refine kr_then ?_
                refine kr_then ?_
                refine kr_block ?_
                refine kr_then ?_
                refine kret1 [] rfl rfl ?_ (by (repeat (first | exact Sub.refl _ | exact Sub.nil _ | refine Sub.chunk (by repeat (first | exact Pick.here | apply Pick.there)) (by first | rfl | (simp; done) | (congr 1; omega)) ?_)))
                first | exact ⟨vf (fun h => by first | exact absurd h.ok (by assumption) | exact absurd h.fit (by assumption) | (have h2 := h.i0; have h3 := h.i1; have h4 := h.o0; have h5 := h.o1; have h6 := h.fit.len; omega) | (have h6 := h.fit.fit k (by omega); omega)), rfl⟩ | exact ⟨vt ⟨⟨hp1, hp5, hl7, haw⟩, by omega, by omega, by omega, by omega, ⟨by omega, hfit⟩, fun v hv => (hiff v hv).1 (hall v (by omega))⟩, rfl⟩ | exact ⟨vf (fun h => by have hw := (hiff j (by omega)).2 (h.all j (by omega)); omega), rfl⟩ 
              ·
                first | have hc20n := kb_nt hc20 | have hc20n := kb_nf hc20 | have hc20n := hc20
                first | have hc20m := of_decide_eq_true hc20n | have hc20m := of_decide_eq_false hc20n | have hc20m := kb_eq hc20n | have hc20m := kb_ne hc20n | have hc20m := kb_bne hc20n | have hc20m := kb_nbne hc20n | have hc20m := isIx_t hc20n | have hc20m := isIx_f hc20n | have hc20m := inR_t hc20n | have hc20m := inR_f hc20n | have hc20m := dec_tt hc20n | have hc20m := dec_ff hc20n | have hc20m := hc20n
                try simp only [List.get_eq_getElem] at hc20n
                try simp only [List.get_eq_getElem] at hc20m
                try (have hX : MineOk _ _ := hc20m; obtain ⟨hp1, hp5, hl7, haw⟩ := hX)
                try (have hX := haw k (by omega); obtain ⟨hf0, hf1, ht0, ht1, hft, hw1, hw6⟩ := hX)
                try have hbk := (show -9999999 ≤ gx fl k ∧ gx fl k ≤ 9999999 by omega)
                try have hb1 := flowOut_bd (m := k) hp1 (fun i hi => haw i (by omega)) hfit k (by omega) (gx l k).f.toNat (by omega)
                try have hb2 := flowMid_bd (m := k + 1) hp1 (fun i hi => haw i (by omega)) (upto hfit hbk) k (by omega) (gx l k).t.toNat (by omega)
                refine kwp_skip ?_
                refine kn_block ?_
                refine kn_then ?_
                refine kwp_region ?_
                refine kops_d rfl rfl (opv_move rfl rfl) ?_
                refine kops_d rfl rfl (by first | exact opv_add rfl rfl rfl ⟨by omega, by omega⟩ | exact opv_ari rfl rfl rfl rfl) ?_
                refine kops_d rfl rfl (opv_assign rfl rfl) ?_
                refine kops_nil ?_
                refine kn_then ?_
                exact ⟨j + 1, ⟨by (exact ⟨by omega, upto hall (by omega)⟩), by (repeat (first | exact Knows.nil _ | refine Knows.cons2 rfl (by first | rfl | (simp; done) | (congr 1; omega)) ?_)), by (repeat (first | exact Sub.refl _ | exact Sub.nil _ | refine Sub.chunk (by repeat (first | exact Pick.here | apply Pick.there)) (by first | rfl | (simp; done) | (congr 1; omega)) ?_))⟩, by omega⟩
            ·
              first | have hc18n := kb_nt hc18 | have hc18n := kb_nf hc18 | have hc18n := hc18
              first | have hc18m := of_decide_eq_true hc18n | have hc18m := of_decide_eq_false hc18n | have hc18m := kb_eq hc18n | have hc18m := kb_ne hc18n | have hc18m := kb_bne hc18n | have hc18m := kb_nbne hc18n | have hc18m := isIx_t hc18n | have hc18m := isIx_f hc18n | have hc18m := inR_t hc18n | have hc18m := inR_f hc18n | have hc18m := dec_tt hc18n | have hc18m := dec_ff hc18n | have hc18m := hc18n
              try simp only [List.get_eq_getElem] at hc18n
              try simp only [List.get_eq_getElem] at hc18m
              try (have hX : MineOk _ _ := hc18m; obtain ⟨hp1, hp5, hl7, haw⟩ := hX)
              try (have hX := haw k (by omega); obtain ⟨hf0, hf1, ht0, ht1, hft, hw1, hw6⟩ := hX)
              try have hbk := (show -9999999 ≤ gx fl k ∧ gx fl k ≤ 9999999 by omega)
              try have hb1 := flowOut_bd (m := k) hp1 (fun i hi => haw i (by omega)) hfit k (by omega) (gx l k).f.toNat (by omega)
              try have hb2 := flowMid_bd (m := k + 1) hp1 (fun i hi => haw i (by omega)) (upto hfit hbk) k (by omega) (gx l k).t.toNat (by omega)
              refine kwp_exit ?_
              refine ke_then ?_
              refine ke_then ?_
              refine ke_block ?_
              refine kn_then ?_
              refine kwp_seq ?_
              refine kwp_region ?_
              refine kops_d rfl rfl (opv_assign rfl rfl) ?_
              refine kops_nil ?_
              refine kn_then ?_
              refine kwp_ret ?_
              refine kret1 [] rfl rfl ?_ (by (repeat (first | exact Sub.refl _ | exact Sub.nil _ | refine Sub.chunk (by repeat (first | exact Pick.here | apply Pick.there)) (by first | rfl | (simp; done) | (congr 1; omega)) ?_)))
              first | exact ⟨vf (fun h => by first | exact absurd h.ok (by assumption) | exact absurd h.fit (by assumption) | (have h2 := h.i0; have h3 := h.i1; have h4 := h.o0; have h5 := h.o1; have h6 := h.fit.len; omega) | (have h6 := h.fit.fit k (by omega); omega)), rfl⟩ | exact ⟨vt ⟨⟨hp1, hp5, hl7, haw⟩, by omega, by omega, by omega, by omega, ⟨by omega, hfit⟩, fun v hv => (hiff v hv).1 (hall v (by omega))⟩, rfl⟩ | exact ⟨vf (fun h => by have hw := (hiff j (by omega)).2 (h.all j (by omega)); omega), rfl⟩ 

set_option maxRecDepth 20000 in
theorem c_laws_FnExactFlowOk (p : Int) (a : Option Addr) (n c : Nat) (l : List Airway) (i o amt : Int) (a2 : Option Addr) (n2 c2 : Nat) (fl : List Int) (hb : n ≤ 9223372036854775807 ∧ n2 ≤ 9223372036854775807) (ha : -9223372036854775808 ≤ amt ∧ amt ≤ 9223372036854775807) (hp : -9223372036854775808 ≤ p ∧ p ≤ 9223372036854775807) :
    Triple Try.prog 9 [.agg #[.int .i64 p, .slice a n c], .int .i64 i, .int .i64 o, .int .i64 amt, .slice a2 n2 c2] [⟨.slice a n c, 3, l.map encAirway⟩, ⟨.slice a2 n2 c2, 1, fl.map encI⟩] [] (fun r ch => r = .bool true ∧ ch = []) := by
  refine triple_start 55 Try.func9 Try.ntmps9 rfl rfl (fun w0 => ?_)
  refine kwp_len (List.Mem.head _) (fun hn => ?_)
  refine kwp_len (List.Mem.tail _ (List.Mem.head _)) (fun hn2 => ?_)
  simp only [List.length_map] at hn hn2
  subst hn hn2
  refine kwp_seq ?_
  refine kwp_region ?_
  refine kops_step rfl (opk_box' (e := [_, _]) 2 rfl rfl rfl rfl (by decide) (fun p5 => ?_))
  refine kops_d rfl rfl (opv_assign rfl rfl) ?_
  refine kops_nil ?_
  refine kn_then ?_
  refine kwp_seq ?_
  refine kwp_seq ?_
  refine kwp_region ?_
  refine kops_d rfl rfl (opv_move rfl rfl) ?_
  refine kops_d rfl rfl (opv_len rfl rfl rfl Try.runUnderlying39) ?_
  refine kops_d rfl rfl (opv_cmp rfl rfl rfl rfl) ?_
  refine kops_nil ?_
  refine kn_then ?_
  refine kwp_cond rfl (fun hc2 => ?_) (fun hc2 => ?_)
  ·
    first | have hc2n := kb_nt hc2 | have hc2n := kb_nf hc2 | have hc2n := hc2
    first | have hc2m := of_decide_eq_true hc2n | have hc2m := of_decide_eq_false hc2n | have hc2m := kb_eq hc2n | have hc2m := kb_ne hc2n | have hc2m := kb_bne hc2n | have hc2m := kb_nbne hc2n | have hc2m := isIx_t hc2n | have hc2m := isIx_f hc2n | have hc2m := inR_t hc2n | have hc2m := inR_f hc2n | have hc2m := dec_tt hc2n | have hc2m := dec_ff hc2n | have hc2m := hc2n
    try simp only [List.get_eq_getElem] at hc2n
    try simp only [List.get_eq_getElem] at hc2m
    try (exfalso; simp_all; done; done)
    all_goals
      refine kwp_seq ?_
      refine kwp_region ?_
      refine kops_d rfl rfl (opv_assign rfl rfl) ?_
      refine kops_nil ?_
      refine kn_then ?_
      refine kwp_ret ?_
      refine kr_then ?_
      refine kret1 [] rfl rfl ?_ (by (repeat (first | exact Sub.refl _ | exact Sub.nil _ | refine Sub.chunk (by repeat (first | exact Pick.here | apply Pick.there)) (by first | rfl | (simp; done) | (congr 1; omega)) ?_)))
      exact ⟨rfl, rfl⟩
  ·
    first | have hc2n := kb_nt hc2 | have hc2n := kb_nf hc2 | have hc2n := hc2
    first | have hc2m := of_decide_eq_true hc2n | have hc2m := of_decide_eq_false hc2n | have hc2m := kb_eq hc2n | have hc2m := kb_ne hc2n | have hc2m := kb_bne hc2n | have hc2m := kb_nbne hc2n | have hc2m := isIx_t hc2n | have hc2m := isIx_f hc2n | have hc2m := inR_t hc2n | have hc2m := inR_f hc2n | have hc2m := dec_tt hc2n | have hc2m := dec_ff hc2n | have hc2m := hc2n
    try simp only [List.get_eq_getElem] at hc2n
    try simp only [List.get_eq_getElem] at hc2m
    try (exfalso; simp_all; done; done)
    all_goals
      refine kwp_skip ?_
      refine kn_then ?_
      refine kwp_seq ?_
      refine kwp_region ?_
      refine kops_d rfl rfl (opv_assign rfl rfl) ?_
      refine kops_nil ?_
      refine kn_then ?_
      refine kwp_seq ?_
      refine kwp_region ?_
      refine kops_d rfl rfl (opv_load_box rfl rfl Try.isAgg30 Try.sizeOf30 (by repeat (first | exact List.Mem.head _ | apply List.Mem.tail))) ?_
      refine kops_d rfl rfl (opv_move rfl rfl) ?_
      refine kops_step rfl (opk_call rfl Try.call18 rfl (c_laws_szMine _ _ _ _ _ ⟨by omega, by omega⟩ (by omega)) ((perm_nil _)) ((Views.nil _)) ?_)
      rintro _ _ ⟨x21, rfl, hl21, hg21, hx21, rfl⟩
      refine kops_d rfl rfl (opv_assign rfl rfl) ?_
      refine kops_nil ?_
      refine kn_then ?_
      refine kwp_seq ?_
      refine kwp_seq ?_
      refine kwp_region ?_
      refine kops_d rfl rfl (opv_move rfl rfl) ?_
      refine kops_d rfl rfl (opv_cmp rfl rfl rfl rfl) ?_
      refine kops_nil ?_
      refine kn_then ?_
      refine kwp_cond rfl (fun hc4 => ?_) (fun hc4 => ?_)
      ·
        first | have hc4n := kb_nt hc4 | have hc4n := kb_nf hc4 | have hc4n := hc4
        first | have hc4m := of_decide_eq_true hc4n | have hc4m := of_decide_eq_false hc4n | have hc4m := kb_eq hc4n | have hc4m := kb_ne hc4n | have hc4m := kb_bne hc4n | have hc4m := kb_nbne hc4n | have hc4m := isIx_t hc4n | have hc4m := isIx_f hc4n | have hc4m := inR_t hc4n | have hc4m := inR_f hc4n | have hc4m := dec_tt hc4n | have hc4m := dec_ff hc4n | have hc4m := hc4n
        try simp only [List.get_eq_getElem] at hc4n
        try simp only [List.get_eq_getElem] at hc4m
        try (exfalso; simp_all; done; done)
        all_goals
          refine kwp_seq ?_
          refine kwp_region ?_
          refine kops_d rfl rfl (opv_assign rfl rfl) ?_
          refine kops_nil ?_
          refine kn_then ?_
          refine kwp_ret ?_
          refine kr_then ?_
          refine kret1 [] rfl rfl ?_ (by (repeat (first | exact Sub.refl _ | exact Sub.nil _ | refine Sub.chunk (by repeat (first | exact Pick.here | apply Pick.there)) (by first | rfl | (simp; done) | (congr 1; omega)) ?_)))
          exact ⟨rfl, rfl⟩
      ·
        first | have hc4n := kb_nt hc4 | have hc4n := kb_nf hc4 | have hc4n := hc4
        first | have hc4m := of_decide_eq_true hc4n | have hc4m := of_decide_eq_false hc4n | have hc4m := kb_eq hc4n | have hc4m := kb_ne hc4n | have hc4m := kb_bne hc4n | have hc4m := kb_nbne hc4n | have hc4m := isIx_t hc4n | have hc4m := isIx_f hc4n | have hc4m := inR_t hc4n | have hc4m := inR_f hc4n | have hc4m := dec_tt hc4n | have hc4m := dec_ff hc4n | have hc4m := hc4n
        try simp only [List.get_eq_getElem] at hc4n
        try simp only [List.get_eq_getElem] at hc4m
        try (exfalso; simp_all; done; done)
        all_goals
          refine kwp_skip ?_
          refine kn_then ?_
          refine kwp_seq ?_
          refine kwp_region ?_
          refine kops_d rfl rfl (opv_load_box rfl rfl Try.isAgg30 Try.sizeOf30 (by repeat (first | exact List.Mem.head _ | apply List.Mem.tail))) ?_
          refine kops_step rfl (opk_call rfl Try.call20 rfl (c_laws_toMine _ _ _ _ _ (by omega)) ((perm_nil _)) (Views.cons (by repeat (first | exact List.Mem.head _ | apply List.Mem.tail)) (View.refl _) ((Views.nil _))) ?_)
          rintro _ _ ⟨a25, c25, rfl, rfl⟩
          refine kops_d rfl rfl (opv_move rfl rfl) ?_
          refine kops_d rfl rfl (opv_move rfl rfl) ?_
          refine kops_d rfl rfl (opv_move rfl rfl) ?_
          refine kops_d rfl rfl (opv_move rfl rfl) ?_
          refine kops_step rfl (opk_call rfl Try.call29 rfl (c_laws_toIntS _ _ _ _ (by omega)) ((perm_nil _)) (Views.cons (by repeat (first | exact List.Mem.head _ | apply List.Mem.tail)) (View.refl _) ((Views.nil _))) ?_)
          rintro _ _ ⟨a30, c30, rfl, rfl⟩
          refine kops_step rfl (opk_call rfl Try.call38 rfl (c_spec_FlowOk _ _ _ _ _ _ _ _ _ _ _ _ ⟨by omega, by omega⟩ ⟨by omega, by omega⟩) ((perm_nil _)) (Views.cons (by repeat (first | exact List.Mem.head _ | apply List.Mem.tail)) (View.refl _) (Views.cons (by repeat (first | exact List.Mem.head _ | apply List.Mem.tail)) (View.refl _) ((Views.nil _)))) ?_)
          rintro _ _ ⟨rfl, rfl⟩
          refine kops_d rfl rfl (opv_assign rfl rfl) ?_
          refine kops_nil ?_
          refine kn_then ?_
          refine kwp_seq ?_
          refine kwp_region ?_
          refine kops_d rfl rfl (opv_load_box rfl rfl Try.isAgg30 Try.sizeOf30 (by repeat (first | exact List.Mem.head _ | apply List.Mem.tail))) ?_
          refine kops_step rfl (opk_call rfl Try.call20 rfl (c_laws_toMine _ _ _ _ _ (by omega)) ((perm_nil _)) (Views.cons (by repeat (first | exact List.Mem.head _ | apply List.Mem.tail)) (View.refl _) ((Views.nil _))) ?_)
          rintro _ _ ⟨a33, c33, rfl, rfl⟩
          refine kops_step rfl (opk_alloc' (e := [_, _]) 2 rfl Try.zeroValue35 rfl rfl (by decide) (fun p13 => ?_))
          refine kops_step rfl (opk_store_box (e' := [_, _]) rfl rfl rfl Try.sizeOf35 rfl (by first | exact one_aw | exact one_int | exact one_sill | decide | (simp [Value.oneCell']; done) | (intro x hx; simp at hx; rcases hx with rfl | rfl | rfl | rfl | rfl <;> rfl)) rfl (by repeat (first | exact Upd.here | apply Upd.there)) ?_)
          refine kops_nil ?_
          refine kn_then ?_
          refine kwp_seq ?_
          refine kwp_region ?_
          refine kops_d rfl rfl (opv_move rfl rfl) ?_
          refine kops_step rfl (opk_call rfl Try.call29 rfl (c_laws_toIntS _ _ _ _ (by omega)) ((perm_nil _)) (Views.cons (by repeat (first | exact List.Mem.head _ | apply List.Mem.tail)) (View.refl _) ((Views.nil _))) ?_)
          rintro _ _ ⟨a35, c35, rfl, rfl⟩
          refine kops_d rfl rfl (opv_assign rfl rfl) ?_
          refine kops_nil ?_
          refine kn_then ?_
          refine kwp_seq ?_
          refine kwp_region ?_
          refine kops_d rfl rfl (opv_load_box rfl rfl Try.isAgg35 Try.sizeOf35 (by repeat (first | exact List.Mem.head _ | apply List.Mem.tail))) ?_
          refine kops_d rfl rfl (opv_move rfl rfl) ?_
          refine kops_d rfl rfl (opv_move rfl rfl) ?_
          refine kops_d rfl rfl (opv_move rfl rfl) ?_
          refine kops_d rfl rfl (opv_move rfl rfl) ?_
          refine kops_step rfl (opk_call rfl Try.call39 rfl (c_impl_FlowOk _ _ _ _ _ _ _ _ _ _ _ _ ⟨by omega, by omega⟩ ⟨by omega, by omega⟩) ((perm_nil _)) (Views.cons (by repeat (first | exact List.Mem.head _ | apply List.Mem.tail)) (View.refl _) (Views.cons (by repeat (first | exact List.Mem.head _ | apply List.Mem.tail)) (View.refl _) ((Views.nil _)))) ?_)
          rintro _ _ ⟨rfl, rfl⟩
          refine kops_d rfl rfl (opv_assign rfl rfl) ?_
          refine kops_nil ?_
          refine kn_then ?_
          refine kwp_seq ?_
          refine kwp_seq ?_
          refine kwp_region ?_
          refine kops_d rfl rfl (opv_move rfl rfl) ?_
          refine kops_d rfl rfl (opv_move rfl rfl) ?_
          refine kops_d rfl rfl (opv_neb rfl rfl rfl Try.underlying4) ?_
          refine kops_nil ?_
          refine kn_then ?_
          refine kwp_cond rfl (fun hc8 => ?_) (fun hc8 => ?_)
          ·
            first | have hc8n := kb_nt hc8 | have hc8n := kb_nf hc8 | have hc8n := hc8
            first | have hc8m := of_decide_eq_true hc8n | have hc8m := of_decide_eq_false hc8n | have hc8m := kb_eq hc8n | have hc8m := kb_ne hc8n | have hc8m := kb_bne hc8n | have hc8m := kb_nbne hc8n | have hc8m := isIx_t hc8n | have hc8m := isIx_f hc8n | have hc8m := inR_t hc8n | have hc8m := inR_f hc8n | have hc8m := dec_tt hc8n | have hc8m := dec_ff hc8n | have hc8m := hc8n
            try simp only [List.get_eq_getElem] at hc8n
            try simp only [List.get_eq_getElem] at hc8m
            try (exfalso; simp_all; done; done)
            all_goals
              refine kwp_seq ?_
              refine kwp_region ?_
              refine kops_d rfl rfl (opv_assign rfl rfl) ?_
              refine kops_nil ?_
              refine kn_then ?_
              refine kwp_ret ?_
              refine kr_then ?_
              refine kret1 [] rfl rfl ?_ (by (repeat (first | exact Sub.refl _ | exact Sub.nil _ | refine Sub.chunk (by repeat (first | exact Pick.here | apply Pick.there)) (by first | rfl | (simp; done) | (congr 1; omega)) ?_)))
              exact ⟨rfl, rfl⟩
          ·
            first | have hc8n := kb_nt hc8 | have hc8n := kb_nf hc8 | have hc8n := hc8
            first | have hc8m := of_decide_eq_true hc8n | have hc8m := of_decide_eq_false hc8n | have hc8m := kb_eq hc8n | have hc8m := kb_ne hc8n | have hc8m := kb_bne hc8n | have hc8m := kb_nbne hc8n | have hc8m := isIx_t hc8n | have hc8m := isIx_f hc8n | have hc8m := inR_t hc8n | have hc8m := inR_f hc8n | have hc8m := dec_tt hc8n | have hc8m := dec_ff hc8n | have hc8m := hc8n
            try simp only [List.get_eq_getElem] at hc8n
            try simp only [List.get_eq_getElem] at hc8m
            try (exfalso; simp_all; done; done)
            all_goals
              refine kwp_skip ?_
              refine kn_then ?_
              refine kwp_seq ?_
              refine kwp_seq ?_
              refine kwp_draw [(0, true), (1, true), (2, false), (3, false), (4, true)] [] _ drawMixed (by kernel_rfl) (fun _ _ _ h => h) (Sub.refl _) ?_
              refine ks_d rfl rfl rfl (opv_load_box rfl rfl Try.isAgg35 Try.sizeOf35 (by repeat (first | exact List.Mem.head _ | apply List.Mem.tail))) ?_
              refine ks_d rfl rfl rfl (opv_load_box rfl rfl Try.isAgg30 Try.sizeOf30 (by repeat (first | exact List.Mem.head _ | apply List.Mem.tail))) ?_
              refine ks_k rfl rfl (opk_call rfl Try.call20 rfl (c_laws_toMine _ _ _ _ _ (by omega)) ((perm_nil _)) (Views.cons (by repeat (first | exact List.Mem.head _ | apply List.Mem.tail)) (View.refl _) ((Views.nil _))) ?_)
              rintro _ _ ⟨a47, c47, rfl, rfl⟩
              refine ⟨.inl (by (repeat (first | exact Sub.refl _ | exact Sub.nil _ | refine Sub.chunk (by repeat (first | exact Pick.here | apply Pick.there)) (by first | rfl | (simp; done) | (congr 1; omega)) ?_))), ?_⟩
              refine ks_k rfl rfl (opk_call rfl Try.call22 rfl (c_laws_eqMine _ _ _ _ _ _ _ _ _ _ ⟨by omega, by omega⟩) ((perm_nil _)) (Views.cons (by repeat (first | exact List.Mem.head _ | apply List.Mem.tail)) (View.refl _) (Views.cons (by repeat (first | exact List.Mem.head _ | apply List.Mem.tail)) (View.refl _) ((Views.nil _)))) ?_)
              rintro _ _ ⟨rfl, rfl⟩
              refine ⟨.inl (by (repeat (first | exact Sub.refl _ | exact Sub.nil _ | refine Sub.chunk (by repeat (first | exact Pick.here | apply Pick.there)) (by first | rfl | (simp; done) | (congr 1; omega)) ?_))), ?_⟩
              refine ks_d rfl rfl rfl (opv_not rfl rfl) ?_
              refine ks_nil ?_
              refine kn_then ?_
              refine kwp_cond rfl (fun hc11 => ?_) (fun hc11 => ?_)
              ·
                first | have hc11n := kb_nt hc11 | have hc11n := kb_nf hc11 | have hc11n := hc11
                first | have hc11m := of_decide_eq_true hc11n | have hc11m := of_decide_eq_false hc11n | have hc11m := kb_eq hc11n | have hc11m := kb_ne hc11n | have hc11m := kb_bne hc11n | have hc11m := kb_nbne hc11n | have hc11m := isIx_t hc11n | have hc11m := isIx_f hc11n | have hc11m := inR_t hc11n | have hc11m := inR_f hc11n | have hc11m := dec_tt hc11n | have hc11m := dec_ff hc11n | have hc11m := hc11n
                try simp only [List.get_eq_getElem] at hc11n
                try simp only [List.get_eq_getElem] at hc11m
                try (exfalso; simp_all; done; done)
                all_goals
                  refine kwp_seq ?_
                  refine kwp_region ?_
                  refine kops_d rfl rfl (opv_assign rfl rfl) ?_
                  refine kops_nil ?_
                  refine kn_then ?_
                  refine kwp_ret ?_
                  refine kr_then ?_
                  refine kret1 [] rfl rfl ?_ (by (repeat (first | exact Sub.refl _ | exact Sub.nil _ | refine Sub.chunk (by repeat (first | exact Pick.here | apply Pick.there)) (by first | rfl | (simp; done) | (congr 1; omega)) ?_)))
                  exact ⟨rfl, rfl⟩
              ·
                first | have hc11n := kb_nt hc11 | have hc11n := kb_nf hc11 | have hc11n := hc11
                first | have hc11m := of_decide_eq_true hc11n | have hc11m := of_decide_eq_false hc11n | have hc11m := kb_eq hc11n | have hc11m := kb_ne hc11n | have hc11m := kb_bne hc11n | have hc11m := kb_nbne hc11n | have hc11m := isIx_t hc11n | have hc11m := isIx_f hc11n | have hc11m := inR_t hc11n | have hc11m := inR_f hc11n | have hc11m := dec_tt hc11n | have hc11m := dec_ff hc11n | have hc11m := hc11n
                try simp only [List.get_eq_getElem] at hc11n
                try simp only [List.get_eq_getElem] at hc11m
                try (exfalso; simp_all; done; done)
                all_goals
                  refine kwp_skip ?_
                  refine kn_then ?_
                  refine kwp_seq ?_
                  refine kwp_seq ?_
                  refine kwp_region ?_
                  refine kops_d rfl rfl (opv_move rfl rfl) ?_
                  refine kops_d rfl rfl (opv_move rfl rfl) ?_
                  refine kops_step rfl (opk_call rfl Try.call29 rfl (c_laws_toIntS _ _ _ _ (by omega)) ((perm_nil _)) (Views.cons (by repeat (first | exact List.Mem.head _ | apply List.Mem.tail)) (View.refl _) ((Views.nil _))) ?_)
                  rintro _ _ ⟨a52, c52, rfl, rfl⟩
                  refine kops_step rfl (opk_call rfl Try.call31 rfl (c_laws_eqIntS _ _ _ _ _ _ _ _ ⟨by omega, by omega⟩) ((perm_nil _)) (Views.cons (by repeat (first | exact List.Mem.head _ | apply List.Mem.tail)) (View.refl _) (Views.cons (by repeat (first | exact List.Mem.head _ | apply List.Mem.tail)) (View.refl _) ((Views.nil _)))) ?_)
                  rintro _ _ ⟨rfl, rfl⟩
                  refine kops_d rfl rfl (opv_not rfl rfl) ?_
                  refine kops_nil ?_
                  refine kn_then ?_
                  refine kwp_cond rfl (fun hc14 => ?_) (fun hc14 => ?_)
                  ·
                    first | have hc14n := kb_nt hc14 | have hc14n := kb_nf hc14 | have hc14n := hc14
                    first | have hc14m := of_decide_eq_true hc14n | have hc14m := of_decide_eq_false hc14n | have hc14m := kb_eq hc14n | have hc14m := kb_ne hc14n | have hc14m := kb_bne hc14n | have hc14m := kb_nbne hc14n | have hc14m := isIx_t hc14n | have hc14m := isIx_f hc14n | have hc14m := inR_t hc14n | have hc14m := inR_f hc14n | have hc14m := dec_tt hc14n | have hc14m := dec_ff hc14n | have hc14m := hc14n
                    try simp only [List.get_eq_getElem] at hc14n
                    try simp only [List.get_eq_getElem] at hc14m
                    try (exfalso; simp_all; done; done)
                    all_goals
                      refine kwp_seq ?_
                      refine kwp_region ?_
                      refine kops_d rfl rfl (opv_assign rfl rfl) ?_
                      refine kops_nil ?_
                      refine kn_then ?_
                      refine kwp_ret ?_
                      refine kr_then ?_
                      refine kret1 [] rfl rfl ?_ (by (repeat (first | exact Sub.refl _ | exact Sub.nil _ | refine Sub.chunk (by repeat (first | exact Pick.here | apply Pick.there)) (by first | rfl | (simp; done) | (congr 1; omega)) ?_)))
                      exact ⟨rfl, rfl⟩
                  ·
                    first | have hc14n := kb_nt hc14 | have hc14n := kb_nf hc14 | have hc14n := hc14
                    first | have hc14m := of_decide_eq_true hc14n | have hc14m := of_decide_eq_false hc14n | have hc14m := kb_eq hc14n | have hc14m := kb_ne hc14n | have hc14m := kb_bne hc14n | have hc14m := kb_nbne hc14n | have hc14m := isIx_t hc14n | have hc14m := isIx_f hc14n | have hc14m := inR_t hc14n | have hc14m := inR_f hc14n | have hc14m := dec_tt hc14n | have hc14m := dec_ff hc14n | have hc14m := hc14n
                    try simp only [List.get_eq_getElem] at hc14n
                    try simp only [List.get_eq_getElem] at hc14m
                    try (exfalso; simp_all; done; done)
                    all_goals
                      refine kwp_skip ?_
                      refine kn_then ?_
                      refine kwp_seq ?_
                      refine kwp_region ?_
                      refine kops_d rfl rfl (opv_assign rfl rfl) ?_
                      refine kops_nil ?_
                      refine kn_then ?_
                      refine kwp_ret ?_
                      refine kret1 [] rfl rfl ?_ (by (repeat (first | exact Sub.refl _ | exact Sub.nil _ | refine Sub.chunk (by repeat (first | exact Pick.here | apply Pick.there)) (by first | rfl | (simp; done) | (congr 1; omega)) ?_)))
                      exact ⟨rfl, rfl⟩

end Go.Proofs.Ytfgialdcilldiaa
