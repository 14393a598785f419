/- The walks of some functions, each by its contract; conditions: those that each contract names. -/
import Derived.Test.YtfgialdcilldiaaWl
namespace Go.Proofs.Ytfgialdcilldiaa
open Go
set_option linter.unusedVariables false
set_option linter.unusedSimpArgs false


set_option maxRecDepth 20000 in
theorem c_impl_AirLinked (p : Int) (a : Option Addr) (n c : Nat) (l : List Airway) (hb : n ≤ 9223372036854775807) :
    Triple Try.prog 43 [.agg #[.int .i64 p, .slice a n c]] [⟨.slice a n c, 3, l.map encAirway⟩] [] (fun r ch => r = .bool (dec (AirLinkedP p l)) ∧ ch = []) := by
  refine triple_start 29 Try.func43 Try.ntmps43 rfl rfl (fun w0 => ?_)
  refine kwp_len (List.Mem.head _) (fun hn => ?_)
  simp only [List.length_map] at hn
  subst hn
  refine kwp_seq ?_
  refine kwp_region ?_
  refine kops_step rfl (opk_box' (e := [_, _]) 2 rfl rfl rfl rfl (by decide) (fun p1 => ?_))
  refine kops_d rfl rfl (opv_assign rfl rfl) ?_
  refine kops_nil ?_
  refine kn_then ?_
  refine kwp_seq ?_
  refine kwp_seq ?_
  refine kwp_region ?_
  refine kops_d rfl rfl (opv_load_box rfl rfl Try.isAgg35 Try.sizeOf35 (by repeat (first | exact List.Mem.head _ | apply List.Mem.tail))) ?_
  refine kops_step rfl (opk_call rfl Try.call21 rfl (c_impl_MineValid _ _ _ _ _ (by omega)) ((perm_nil _)) (Views.cons (by repeat (first | exact List.Mem.head _ | apply List.Mem.tail)) (View.refl _) ((Views.nil _))) ?_)
  rintro _ _ ⟨rfl, rfl⟩
  refine kops_d rfl rfl (opv_not rfl rfl) ?_
  refine kops_nil ?_
  refine kn_then ?_
  refine kwp_cond rfl (fun hc3 => ?_) (fun hc3 => ?_)
  ·
    first | have hc3n := kb_nt hc3 | have hc3n := kb_nf hc3 | have hc3n := hc3
    first | have hc3m := of_decide_eq_true hc3n | have hc3m := of_decide_eq_false hc3n | have hc3m := kb_eq hc3n | have hc3m := kb_ne hc3n | have hc3m := kb_bne hc3n | have hc3m := kb_nbne hc3n | have hc3m := isIx_t hc3n | have hc3m := isIx_f hc3n | have hc3m := inR_t hc3n | have hc3m := inR_f hc3n | have hc3m := dec_tt hc3n | have hc3m := dec_ff hc3n | have hc3m := hc3n
    try simp only [List.get_eq_getElem] at hc3n
    try simp only [List.get_eq_getElem] at hc3m
    try (have hM : MineOk _ _ := hc3m; obtain ⟨hp1, hp5, hl7, haw⟩ := hM)
    try have hM : MineOk p l := hc3m
    try (have hX := haw k (by omega); obtain ⟨hf0, hf1, ht0, ht1, hft, hw1, hw6⟩ := hX)
    refine kwp_seq ?_
    refine kwp_region ?_
    refine kops_d rfl rfl (opv_assign rfl rfl) ?_
    refine kops_nil ?_
    refine kn_then ?_
    refine kwp_ret ?_
    refine kr_then ?_
    refine kret1 [] rfl rfl ?_ (by (repeat (first | exact Sub.refl _ | exact Sub.nil _ | refine Sub.chunk (by repeat (first | exact Pick.here | apply Pick.there)) (by first | rfl | (simp; done) | (congr 1; omega)) ?_)))
    first | exact ⟨vf (fun h => absurd h.ok (by assumption)), rfl⟩ | exact ⟨by rw [show k = l.length by omega, airLinked_eq hM], rfl⟩
  ·
    first | have hc3n := kb_nt hc3 | have hc3n := kb_nf hc3 | have hc3n := hc3
    first | have hc3m := of_decide_eq_true hc3n | have hc3m := of_decide_eq_false hc3n | have hc3m := kb_eq hc3n | have hc3m := kb_ne hc3n | have hc3m := kb_bne hc3n | have hc3m := kb_nbne hc3n | have hc3m := isIx_t hc3n | have hc3m := isIx_f hc3n | have hc3m := inR_t hc3n | have hc3m := inR_f hc3n | have hc3m := dec_tt hc3n | have hc3m := dec_ff hc3n | have hc3m := hc3n
    try simp only [List.get_eq_getElem] at hc3n
    try simp only [List.get_eq_getElem] at hc3m
    try (have hM : MineOk _ _ := hc3m; obtain ⟨hp1, hp5, hl7, haw⟩ := hM)
    try have hM : MineOk p l := hc3m
    try (have hX := haw k (by omega); obtain ⟨hf0, hf1, ht0, ht1, hft, hw1, hw6⟩ := hX)
    refine kwp_skip ?_
    refine kn_then ?_
    refine kwp_seq ?_
    refine kwp_region ?_
    refine kops_d rfl rfl (opv_fab rfl rfl fa_35_0 (by repeat (first | exact List.Mem.head _ | apply List.Mem.tail))) ?_
    refine kops_d rfl rfl (opv_load rfl rfl Try.isAgg3 (by repeat (first | exact List.Mem.head _ | apply List.Mem.tail)) (by first | rfl | exact gx_map (by first | omega | (simp only [List.length_set, ownL_len, partsTo_len, joinP_len]; omega)) | exact mixi_get (by first | exact joinP_len | (simp only [ownL_len, List.length_replicate])) (by first | omega | (simp only [ownL_len, partsTo_len, joinP_len, List.length_replicate]; omega)) | (simp; done)) rfl) ?_
    refine kops_step rfl (opk_call rfl Try.call73 rfl (c_impl_ownParts _ ⟨by omega, by omega⟩) ((perm_nil _)) ((Views.nil _)) ?_)
    rintro _ _ ⟨a11, c11, rfl, rfl⟩
    refine kops_d rfl rfl (opv_assign rfl rfl) ?_
    refine kops_nil ?_
    refine kn_then ?_
    refine kwp_seq ?_
    refine kwp_seq ?_
    refine kwp_region ?_
    refine kops_d rfl rfl (opv_fab rfl rfl fa_35_1 (by repeat (first | exact List.Mem.head _ | apply List.Mem.tail))) ?_
    refine kops_d rfl rfl (opv_load rfl rfl Try.isAgg33 (by repeat (first | exact List.Mem.head _ | apply List.Mem.tail)) (by first | rfl | exact gx_map (by first | omega | (simp only [List.length_set, ownL_len, partsTo_len, joinP_len]; omega)) | exact mixi_get (by first | exact joinP_len | (simp only [ownL_len, List.length_replicate])) (by first | omega | (simp only [ownL_len, partsTo_len, joinP_len, List.length_replicate]; omega)) | (simp; done)) rfl) ?_
    refine kops_d rfl rfl (opv_len rfl rfl rfl Try.runUnderlying33) ?_
    refine kops_d rfl rfl (opv_move rfl rfl) ?_
    refine kops_nil ?_
    refine kn_then ?_
    refine kwp_block ?_
    refine kwp_loop1 (inv := [(2, _), (3, _), (13, _), (14, _)]) (ic := [])
      (fun (k : Nat) => [(15, .int .i64 k)])
      (fun (k : Nat) => [⟨.slice a11 p.toNat c11, 1, (partsTo p.toNat (aends l) k).map encI⟩])
      (fun (k : Nat) => k ≤ l.length)
      (fun (k : Nat) => l.length - k)
      ⟨0, ⟨by first | trivial | omega | (refine ⟨?_, ?_⟩ <;> omega) | (simp; done), by (repeat (first | exact Knows.nil _ | refine Knows.cons2 rfl (by first | rfl | (simp; done) | (congr 1; omega)) ?_)), by (repeat (first | exact Sub.refl _ | exact Sub.nil _ | refine Sub.chunk (by repeat (first | exact Pick.here | apply Pick.there)) (by first | rfl | (simp; done) | (congr 1; omega)) ?_))⟩⟩ (fun k hp => ?_)
    refine kwp_seq ?_
    refine kwp_region ?_
    refine kops_d rfl rfl (opv_cmp rfl rfl rfl rfl) ?_
    refine kops_nil ?_
    refine kn_then ?_
    refine kwp_seq ?_
    refine kwp_cond rfl (fun hc5 => ?_) (fun hc5 => ?_)
    ·
      first | have hc5n := kb_nt hc5 | have hc5n := kb_nf hc5 | have hc5n := hc5
      first | have hc5m := of_decide_eq_true hc5n | have hc5m := of_decide_eq_false hc5n | have hc5m := kb_eq hc5n | have hc5m := kb_ne hc5n | have hc5m := kb_bne hc5n | have hc5m := kb_nbne hc5n | have hc5m := isIx_t hc5n | have hc5m := isIx_f hc5n | have hc5m := inR_t hc5n | have hc5m := inR_f hc5n | have hc5m := dec_tt hc5n | have hc5m := dec_ff hc5n | have hc5m := hc5n
      try simp only [List.get_eq_getElem] at hc5n
      try simp only [List.get_eq_getElem] at hc5m
      try (have hM : MineOk _ _ := hc5m; obtain ⟨hp1, hp5, hl7, haw⟩ := hM)
      try have hM : MineOk p l := hc5m
      try (have hX := haw k (by omega); obtain ⟨hf0, hf1, ht0, ht1, hft, hw1, hw6⟩ := hX)
      refine kwp_skip ?_
      refine kn_then ?_
      refine kwp_seq ?_
      refine kwp_block ?_
      refine kwp_seq ?_
      refine kwp_region ?_
      refine kops_d rfl rfl (opv_ia rfl rfl rfl Try.runUnderlying33 Try.sizeOf77 (by repeat (first | exact List.Mem.head _ | apply List.Mem.tail)) (by first | rfl | exact (Int.toNat_of_nonneg (by omega)).symm) (by first | omega | (simp only [List.length_map]; omega) | (simp only [List.length_set, List.length_map, ownL_len, partsTo_len, joinP_len]; omega) | (rw [mix_len joinP_len]; omega) | (rw [List.length_map, mix_len joinP_len]; omega) | (rw [mix_len (by simp [ownL_len])]; simp only [List.length_replicate]; omega) | (rw [List.length_map, mix_len (by simp [ownL_len])]; simp only [List.length_replicate]; omega) | (rw [List.length_map, mix_len joinP_len, partsTo_len]; omega) | (rw [mix_len joinP_len, partsTo_len]; omega) | (simp; omega) | (simp; done))) ?_
      refine kops_d rfl rfl (opv_load_agg rfl rfl Try.isAgg77 Try.sizeOf77 (by repeat (first | exact List.Mem.head _ | apply List.Mem.tail)) (by first | rfl | exact gx_map (by first | omega | (simp only [List.length_set, ownL_len, partsTo_len, joinP_len]; omega)) | exact mixi_get (by first | exact joinP_len | (simp only [ownL_len, List.length_replicate])) (by first | omega | (simp only [ownL_len, partsTo_len, joinP_len, List.length_replicate]; omega)) | (simp; done))) ?_
      refine kops_step rfl (opk_alloc' (e := [_, _, _]) 3 rfl Try.zeroValue77 rfl rfl (by decide) (fun p5 => ?_))
      refine kops_step rfl (opk_store_box (e' := [_, _, _]) rfl rfl rfl Try.sizeOf77 rfl (by first | exact one_aw | exact one_leg | exact one_lit _ rfl | exact one_int | exact one_sill | decide | (simp [Value.oneCell']; done) | (intro x hx; simp at hx; rcases hx with rfl | rfl | rfl | rfl | rfl <;> rfl)) rfl (by repeat (first | exact Upd.here | apply Upd.there)) ?_)
      refine kops_nil ?_
      refine kn_then ?_
      refine kwp_region ?_
      refine kops_d rfl rfl (opv_move rfl rfl) ?_
      refine kops_d rfl rfl (opv_fab rfl rfl fa_77_0 (by repeat (first | exact List.Mem.head _ | apply List.Mem.tail))) ?_
      refine kops_d rfl rfl (opv_load rfl rfl Try.isAgg3 (by repeat (first | exact List.Mem.head _ | apply List.Mem.tail)) (by first | rfl | exact gx_map (by first | omega | (simp only [List.length_set, ownL_len, partsTo_len, joinP_len]; omega)) | exact mixi_get (by first | exact joinP_len | (simp only [ownL_len, List.length_replicate])) (by first | omega | (simp only [ownL_len, partsTo_len, joinP_len, List.length_replicate]; omega)) | (simp; done)) rfl) ?_
      refine kops_d rfl rfl (opv_fab rfl rfl fa_77_1 (by repeat (first | exact List.Mem.head _ | apply List.Mem.tail))) ?_
      refine kops_d rfl rfl (opv_load rfl rfl Try.isAgg3 (by repeat (first | exact List.Mem.head _ | apply List.Mem.tail)) (by first | rfl | exact gx_map (by first | omega | (simp only [List.length_set, ownL_len, partsTo_len, joinP_len]; omega)) | exact mixi_get (by first | exact joinP_len | (simp only [ownL_len, List.length_replicate])) (by first | omega | (simp only [ownL_len, partsTo_len, joinP_len, List.length_replicate]; omega)) | (simp; done)) rfl) ?_
      refine kops_step rfl (opk_call rfl Try.call74 rfl (c_impl_joinParts _ _ _ _ _ _ ⟨by omega, by omega⟩ ⟨by omega, by omega⟩ (by omega)) (perm_cons (by repeat (first | exact Pick.here | apply Pick.there)) ((perm_nil _))) ((Views.nil _)) ?_)
      rintro _ _ ⟨rfl, rfl⟩
      refine kops_nil ?_
      refine kn_block ?_
      refine kn_then ?_
      refine kwp_region ?_
      refine kops_d rfl rfl (by first | exact opv_add rfl rfl rfl ⟨by omega, by omega⟩ | exact opv_ari rfl rfl rfl rfl) ?_
      refine kops_d rfl rfl (opv_move rfl rfl) ?_
      refine kops_nil ?_
      refine kn_then ?_
      exact ⟨k + 1, ⟨by first | trivial | omega | (refine ⟨?_, ?_⟩ <;> omega) | (simp; done), by (repeat (first | exact Knows.nil _ | refine Knows.cons2 rfl (by first | rfl | (simp; done) | (congr 1; omega)) ?_)), by (repeat (first | exact Sub.refl _ | exact Sub.nil _ | refine Sub.chunk (by repeat (first | exact Pick.here | apply Pick.there)) (by first | rfl | (simp; done) | (congr 1; omega)) ?_))⟩, by omega⟩
    ·
      first | have hc5n := kb_nt hc5 | have hc5n := kb_nf hc5 | have hc5n := hc5
      first | have hc5m := of_decide_eq_true hc5n | have hc5m := of_decide_eq_false hc5n | have hc5m := kb_eq hc5n | have hc5m := kb_ne hc5n | have hc5m := kb_bne hc5n | have hc5m := kb_nbne hc5n | have hc5m := isIx_t hc5n | have hc5m := isIx_f hc5n | have hc5m := inR_t hc5n | have hc5m := inR_f hc5n | have hc5m := dec_tt hc5n | have hc5m := dec_ff hc5n | have hc5m := hc5n
      try simp only [List.get_eq_getElem] at hc5n
      try simp only [List.get_eq_getElem] at hc5m
      try (have hM : MineOk _ _ := hc5m; obtain ⟨hp1, hp5, hl7, haw⟩ := hM)
      try have hM : MineOk p l := hc5m
      try (have hX := haw k (by omega); obtain ⟨hf0, hf1, ht0, ht1, hft, hw1, hw6⟩ := hX)
      refine kwp_exit ?_
      refine ke_then ?_
      refine ke_then ?_
      refine ke_block ?_
      refine kn_then ?_
      refine kwp_seq ?_
      refine kwp_region ?_
      refine kops_d rfl rfl (opv_move rfl rfl) ?_
      refine kops_step rfl (opk_call rfl Try.call75 rfl (c_impl_countParts _ _ _ _ (by omega)) ((perm_nil _)) (Views.cons (by repeat (first | exact List.Mem.head _ | apply List.Mem.tail)) (View.refl _) ((Views.nil _))) ?_)
      rintro _ _ ⟨rfl, rfl⟩
      refine kops_d rfl rfl (opv_cmp rfl rfl rfl rfl) ?_
      refine kops_d rfl rfl (opv_assign rfl rfl) ?_
      refine kops_nil ?_
      refine kn_then ?_
      refine kwp_ret ?_
      refine kret1 [] rfl rfl ?_ (by (repeat (first | exact Sub.refl _ | exact Sub.nil _ | refine Sub.chunk (by repeat (first | exact Pick.here | apply Pick.there)) (by first | rfl | (simp; done) | (congr 1; omega)) ?_)))
      first | exact ⟨vf (fun h => absurd h.ok (by assumption)), rfl⟩ | exact ⟨by rw [show k = l.length by omega, airLinked_eq hM], rfl⟩

set_option maxRecDepth 20000 in
theorem c_spec_l3Survey (p : Int) (a : Option Addr) (n c : Nat) (l : List Airway) (hb : n ≤ 1048576) :
    Triple Try.prog 72 [.agg #[.int .i64 p, .slice a n c]] [⟨.slice a n c, 3, l.map encAirway⟩] [] (fun r ch => ∃ a' c', r = .agg #[.int .i64 p, .slice a' n c'] ∧ ch = [⟨.slice a' n c', 5, (legsOf l).map encLeg⟩]) := by
  refine triple_start 34 Try.func72 Try.ntmps72 rfl rfl (fun w0 => ?_)
  refine kwp_len (List.Mem.head _) (fun hn => ?_)
  simp only [List.length_map] at hn
  subst hn
  refine kwp_nil 5 (by decide) ?_
  refine kwp_seq ?_
  refine kwp_region ?_
  refine kops_step rfl (opk_box' (e := [_, _]) 2 rfl rfl rfl rfl (by decide) (fun p1 => ?_))
  refine kops_step rfl (opk_alloc' (e := [_, _]) 2 rfl Try.zeroValue93 rfl rfl (by decide) (fun p2 => ?_))
  refine kops_nil ?_
  refine kn_then ?_
  refine kwp_seq ?_
  refine kwp_region ?_
  refine kops_d rfl rfl (opv_fab rfl rfl fa_35_0 (by repeat (first | exact List.Mem.head _ | apply List.Mem.tail))) ?_
  refine kops_d rfl rfl (opv_load rfl rfl Try.isAgg3 (by repeat (first | exact List.Mem.head _ | apply List.Mem.tail)) (by first | rfl | exact gx_map (by omega) | exact fill_get (by omega) | (simp; done)) rfl) ?_
  refine kops_d rfl rfl (opv_build1 [(0, _)] [_, (.slice none 0 0)] rfl rfl Try.zeroValue93 Try.runUnderlying93 pl_93 rfl) ?_
  refine kops_step rfl (opk_alloc' (e := [_, _]) 2 rfl Try.zeroValue93 rfl rfl (by decide) (fun p3 => ?_))
  refine kops_step rfl (opk_store_box (e' := [_, _]) rfl rfl rfl Try.sizeOf93 rfl (by first | exact one_aw | exact one_leg | exact one_lit _ rfl | exact one_int | exact one_sill | decide | (simp [Value.oneCell']; done) | (intro x hx; simp at hx; rcases hx with rfl | rfl | rfl | rfl | rfl <;> rfl)) rfl (by repeat (first | exact Upd.here | apply Upd.there)) ?_)
  refine kops_nil ?_
  refine kn_then ?_
  refine kwp_seq ?_
  refine kwp_seq ?_
  refine kwp_region ?_
  refine kops_d rfl rfl (opv_assign rfl rfl) ?_
  refine kops_nil ?_
  refine kn_then ?_
  refine kwp_block ?_
  refine kwp_loop3 (inv := [(1, _), (2, _), (3, _)]) (ic := [⟨.pointer (some p1), _, _⟩, ⟨.pointer (some p2), _, _⟩])
    (fun (k : Nat) (a1 : Option Addr) (c1 : Nat) => [(4, .int .i64 k)])
    (fun (k : Nat) (a1 : Option Addr) (c1 : Nat) => [⟨.pointer (some p3), 2, [[.int .i64 p, .slice a1 k c1]]⟩, ⟨.slice a1 k c1, 5, ((legsOf l).take k).map encLeg⟩])
    (fun (k : Nat) (a1 : Option Addr) (c1 : Nat) => k ≤ l.length)
    (fun (k : Nat) (a1 : Option Addr) (c1 : Nat) => l.length - k)
    ⟨0, none, 0, ⟨by first | trivial | omega | (refine ⟨?_, ?_⟩ <;> omega) | (simp; done), by (repeat (first | exact Knows.nil _ | refine Knows.cons2 rfl (by first | rfl | (simp; done) | (congr 1; omega)) ?_)), by (repeat (first | exact Sub.refl _ | exact Sub.nil _ | refine Sub.chunk (by repeat (first | exact Pick.here | apply Pick.there)) (by first | rfl | (simp; done) | (congr 1; omega)) ?_))⟩⟩ (fun k a1 c1 hp => ?_)
  refine kwp_seq ?_
  refine kwp_seq ?_
  refine kwp_region ?_
  refine kops_d rfl rfl (opv_move rfl rfl) ?_
  refine kops_d rfl rfl (opv_fab rfl rfl fa_35_1 (by repeat (first | exact List.Mem.head _ | apply List.Mem.tail))) ?_
  refine kops_d rfl rfl (opv_load rfl rfl Try.isAgg33 (by repeat (first | exact List.Mem.head _ | apply List.Mem.tail)) (by first | rfl | exact gx_map (by omega) | exact fill_get (by omega) | (simp; done)) rfl) ?_
  refine kops_d rfl rfl (opv_len rfl rfl rfl Try.runUnderlying33) ?_
  refine kops_d rfl rfl (opv_cmp rfl rfl rfl rfl) ?_
  refine kops_nil ?_
  refine kn_then ?_
  refine kwp_cond rfl (fun hc2 => ?_) (fun hc2 => ?_)
  ·
    first | have hc2n := kb_nt hc2 | have hc2n := kb_nf hc2 | have hc2n := hc2
    first | have hc2m := of_decide_eq_true hc2n | have hc2m := of_decide_eq_false hc2n | have hc2m := kb_eq hc2n | have hc2m := kb_ne hc2n | have hc2m := kb_bne hc2n | have hc2m := kb_nbne hc2n | have hc2m := isIx_t hc2n | have hc2m := isIx_f hc2n | have hc2m := inR_t hc2n | have hc2m := inR_f hc2n | have hc2m := dec_tt hc2n | have hc2m := dec_ff hc2n | have hc2m := hc2n
    try simp only [List.get_eq_getElem] at hc2n
    try simp only [List.get_eq_getElem] at hc2m
    refine kwp_skip ?_
    refine kn_then ?_
    refine kwp_seq ?_
    refine kwp_block ?_
    refine kwp_draw [(0, true), (1, true), (2, true), (3, true), (4, true), (5, true), (6, true), (7, true), (8, true), (9, true), (10, true), (11, true), (12, true), (13, true), (14, true), (15, false), (16, false), (17, true), (18, false)] [18] [⟨.pointer (some p1), _, _⟩, ⟨.pointer (some p2), _, _⟩, ⟨.pointer (some p3), _, _⟩] drawMixed (by kernel_rfl) (fun _ _ _ h => h) (by (repeat (first | exact Sub.refl _ | exact Sub.nil _ | refine Sub.chunk (by repeat (first | exact Pick.here | apply Pick.there)) (by first | rfl | (simp; done) | (congr 1; omega)) ?_))) ?_
    refine ks_d rfl rfl rfl (opv_fab rfl rfl fa_93_1 (by repeat (first | exact List.Mem.head _ | apply List.Mem.tail))) ?_
    refine ks_d rfl rfl rfl (opv_load rfl rfl Try.isAgg91 (by repeat (first | exact List.Mem.head _ | apply List.Mem.tail)) (by first | rfl | exact gx_map (by omega) | exact fill_get (by omega) | (simp; done)) rfl) ?_
    refine ks_d rfl rfl rfl (opv_fab rfl rfl fa_35_1 (by repeat (first | exact List.Mem.head _ | apply List.Mem.tail))) ?_
    refine ks_d rfl rfl rfl (opv_load rfl rfl Try.isAgg33 (by repeat (first | exact List.Mem.head _ | apply List.Mem.tail)) (by first | rfl | exact gx_map (by omega) | exact fill_get (by omega) | (simp; done)) rfl) ?_
    refine ks_d rfl rfl rfl (opv_move rfl rfl) ?_
    refine ks_d rfl rfl rfl (opv_ia rfl rfl rfl Try.runUnderlying33 Try.sizeOf77 (by repeat (first | exact List.Mem.head _ | apply List.Mem.tail)) (by first | rfl | exact (Int.toNat_of_nonneg (by omega)).symm) (by first | omega | (simp only [List.length_map]; omega) | (rw [fill_len (by omega)]; omega) | (simp; omega) | (simp; done))) ?_
    refine ks_d rfl rfl rfl (opv_fa rfl rfl fa_77_0 (by repeat (first | exact List.Mem.head _ | apply List.Mem.tail)) (by first | omega | (simp only [List.length_map]; omega) | (rw [fill_len (by omega)]; omega) | (simp; omega) | (simp; done))) ?_
    refine ks_d rfl rfl rfl (opv_load rfl rfl Try.isAgg3 (by repeat (first | exact List.Mem.head _ | apply List.Mem.tail)) (by first | rfl | exact gx_map (by omega) | exact fill_get (by omega) | (simp; done)) rfl) ?_
    refine ks_d rfl rfl rfl (opv_fab rfl rfl fa_35_1 (by repeat (first | exact List.Mem.head _ | apply List.Mem.tail))) ?_
    refine ks_d rfl rfl rfl (opv_load rfl rfl Try.isAgg33 (by repeat (first | exact List.Mem.head _ | apply List.Mem.tail)) (by first | rfl | exact gx_map (by omega) | exact fill_get (by omega) | (simp; done)) rfl) ?_
    refine ks_d rfl rfl rfl (opv_move rfl rfl) ?_
    refine ks_d rfl rfl rfl (opv_ia rfl rfl rfl Try.runUnderlying33 Try.sizeOf77 (by repeat (first | exact List.Mem.head _ | apply List.Mem.tail)) (by first | rfl | exact (Int.toNat_of_nonneg (by omega)).symm) (by first | omega | (simp only [List.length_map]; omega) | (rw [fill_len (by omega)]; omega) | (simp; omega) | (simp; done))) ?_
    refine ks_d rfl rfl rfl (opv_fa rfl rfl fa_77_1 (by repeat (first | exact List.Mem.head _ | apply List.Mem.tail)) (by first | omega | (simp only [List.length_map]; omega) | (rw [fill_len (by omega)]; omega) | (simp; omega) | (simp; done))) ?_
    refine ks_d rfl rfl rfl (opv_load rfl rfl Try.isAgg3 (by repeat (first | exact List.Mem.head _ | apply List.Mem.tail)) (by first | rfl | exact gx_map (by omega) | exact fill_get (by omega) | (simp; done)) rfl) ?_
    refine ks_d rfl rfl rfl (opv_build1 [(0, _), (1, _)] [_, _, (.int .i64 0), (.int .i64 0), (.int .i64 0)] rfl rfl Try.zeroValue111 Try.runUnderlying111 pl_111 rfl) ?_
    refine ks_k rfl rfl (opk_buildSlice (vs := [_]) rfl rfl rfl Try.runUnderlying91 Try.sizeOf111 Try.zeroValue111 rfl (by decide) (by simp [Value.cells]) (by decide) (fun a30 => ?_))
    refine ⟨.inl (by (repeat (first | exact Sub.refl _ | exact Sub.nil _ | refine Sub.chunk (by repeat (first | exact Pick.here | apply Pick.there)) (by first | rfl | (simp; done) | (congr 1; omega)) ?_))), ?_⟩
    refine ks_k rfl rfl (opk_append rfl rfl rfl Try.underlying91 Try.type111 rfl rfl rfl (by repeat (first | exact List.Mem.head _ | apply List.Mem.tail)) (by first | exact one_aw | exact one_leg | exact one_lit _ rfl | exact one_int | exact one_sill | decide | (simp [Value.oneCell']; done) | (intro x hx; simp at hx; rcases hx with rfl | rfl | rfl | rfl | rfl <;> rfl)) (by repeat (first | exact Pick.here | apply Pick.there)) (by first | omega | (simp; omega)) (show _ * 40 ≤ 140737488355328 by first | omega | (simp; omega)) (fun a31 c31 => ?_))
    refine ⟨.inl (by (repeat (first | exact Sub.refl _ | exact Sub.nil _ | refine Sub.chunk (by repeat (first | exact Pick.here | apply Pick.there)) (by first | rfl | (simp; done) | (congr 1; omega)) ?_))), ?_⟩
    refine ks_d rfl rfl rfl (opv_fab rfl rfl fa_93_1 (by repeat (first | exact List.Mem.head _ | apply List.Mem.tail))) ?_
    refine ks_k rfl rfl (opk_store rfl rfl rfl Try.sizeOf91 rfl (by repeat (first | exact Upd.here | apply Upd.there)) (by first | rfl | exact gx_map (by omega) | exact fill_get (by omega) | (simp; done)) (by decide) ?_)
    refine ⟨.inr ⟨by decide, rfl⟩, ?_⟩
    refine ks_nil ?_
    refine kn_block ?_
    refine kn_then ?_
    refine kwp_region ?_
    refine kops_d rfl rfl (opv_move rfl rfl) ?_
    refine kops_d rfl rfl (by first | exact opv_add rfl rfl rfl ⟨by omega, by omega⟩ | exact opv_ari rfl rfl rfl rfl) ?_
    refine kops_d rfl rfl (opv_assign rfl rfl) ?_
    refine kops_nil ?_
    refine kn_then ?_
    exact ⟨k + 1, a31, c31, ⟨by first | trivial | omega | (refine ⟨?_, ?_⟩ <;> omega) | (simp; done), by (repeat (first | exact Knows.nil _ | refine Knows.cons2 rfl (by first | rfl | (congr 1; omega) | exact legs_snoc (by omega)) ?_)), by (repeat (first | exact Sub.refl _ | exact Sub.nil _ | refine Sub.chunk (by repeat (first | exact Pick.here | apply Pick.there)) (by first | rfl | (congr 1; omega) | exact legs_snoc (by omega)) ?_))⟩, by omega⟩
  ·
    first | have hc2n := kb_nt hc2 | have hc2n := kb_nf hc2 | have hc2n := hc2
    first | have hc2m := of_decide_eq_true hc2n | have hc2m := of_decide_eq_false hc2n | have hc2m := kb_eq hc2n | have hc2m := kb_ne hc2n | have hc2m := kb_bne hc2n | have hc2m := kb_nbne hc2n | have hc2m := isIx_t hc2n | have hc2m := isIx_f hc2n | have hc2m := inR_t hc2n | have hc2m := inR_f hc2n | have hc2m := dec_tt hc2n | have hc2m := dec_ff hc2n | have hc2m := hc2n
    try simp only [List.get_eq_getElem] at hc2n
    try simp only [List.get_eq_getElem] at hc2m
    refine kwp_exit ?_
    refine ke_then ?_
    refine ke_then ?_
    refine ke_block ?_
    refine kn_then ?_
    refine kwp_seq ?_
    refine kwp_region ?_
    refine kops_d rfl rfl (opv_load_box rfl rfl Try.isAgg93 Try.sizeOf93 (by repeat (first | exact List.Mem.head _ | apply List.Mem.tail))) ?_
    refine kops_step rfl (opk_store_box (e' := [_, _]) rfl rfl rfl Try.sizeOf93 rfl (by first | exact one_aw | exact one_leg | exact one_lit _ rfl | exact one_int | exact one_sill | decide | (simp [Value.oneCell']; done) | (intro x hx; simp at hx; rcases hx with rfl | rfl | rfl | rfl | rfl <;> rfl)) rfl (by repeat (first | exact Upd.here | apply Upd.there)) ?_)
    refine kops_nil ?_
    refine kn_then ?_
    refine kwp_ret ?_
    refine kretc [⟨.slice a1 k c1, 5, (legsOf l).map encLeg⟩] rfl rfl Try.isAgg93 Try.sizeOf93 (by repeat (first | exact List.Mem.head _ | apply List.Mem.tail)) ?_ (by (refine Sub.chunk (by repeat (first | exact Pick.here | apply Pick.there)) (by rw [List.take_of_length_le (by rw [legsOf_len]; omega)]) (Sub.nil _)))
    (obtain rfl : k = l.length := by omega); exact ⟨_, _, rfl, rfl⟩

set_option maxRecDepth 20000 in
theorem c_spec_l1All (n : Int) (hn : 0 ≤ n ∧ n ≤ 1048576) :
    Triple Try.prog 87 [.int .i64 n] [] [] (fun r ch => ∃ a' c', r = .slice a' n.toNat c' ∧ ch = [⟨.slice a' n.toNat c', 1, (ownL n.toNat).map encI⟩]) := by
  refine triple_start 16 Try.func87 Try.ntmps87 rfl rfl (fun w0 => ?_)
  refine kwp_seq ?_
  refine kwp_region ?_
  refine kops_d rfl rfl (opv_assign rfl rfl) ?_
  refine kops_nil ?_
  refine kn_then ?_
  refine kwp_seq ?_
  refine kwp_region ?_
  refine kops_step rfl (opk_buildSlice (vs := []) rfl rfl rfl Try.runUnderlying39 Try.sizeOf3 Try.zeroValue3 rfl (by decide) (by simp [Value.cells]) (by decide) (fun a5 => ?_))
  refine kops_d rfl rfl (opv_assign rfl rfl) ?_
  refine kops_nil ?_
  refine kn_then ?_
  refine kwp_seq ?_
  refine kwp_seq ?_
  refine kwp_region ?_
  refine kops_d rfl rfl (opv_assign rfl rfl) ?_
  refine kops_nil ?_
  refine kn_then ?_
  refine kwp_block ?_
  refine kwp_loop3 (inv := [(0, _), (2, _)]) (ic := [])
    (fun (k : Nat) (a1 : Option Addr) (c1 : Nat) => [(3, .slice a1 k c1), (4, .int .i64 k)])
    (fun (k : Nat) (a1 : Option Addr) (c1 : Nat) => [⟨.slice a1 k c1, 1, (ownL k).map encI⟩])
    (fun (k : Nat) (a1 : Option Addr) (c1 : Nat) => k ≤ n.toNat)
    (fun (k : Nat) (a1 : Option Addr) (c1 : Nat) => n.toNat - k)
    ⟨0, some a5, 0, ⟨by first | trivial | omega | (refine ⟨?_, ?_⟩ <;> omega) | (simp; done), by (repeat (first | exact Knows.nil _ | refine Knows.cons2 rfl (by first | rfl | (simp; done) | (congr 1; omega)) ?_)), by (repeat (first | exact Sub.refl _ | exact Sub.nil _ | refine Sub.chunk (by repeat (first | exact Pick.here | apply Pick.there)) (by first | rfl | (simp; done) | (congr 1; omega)) ?_))⟩⟩ (fun k a1 c1 hp => ?_)
  refine kwp_seq ?_
  refine kwp_seq ?_
  refine kwp_region ?_
  refine kops_d rfl rfl (opv_move rfl rfl) ?_
  refine kops_d rfl rfl (opv_move rfl rfl) ?_
  refine kops_d rfl rfl (opv_cmp rfl rfl rfl rfl) ?_
  refine kops_nil ?_
  refine kn_then ?_
  refine kwp_cond rfl (fun hc2 => ?_) (fun hc2 => ?_)
  ·
    first | have hc2n := kb_nt hc2 | have hc2n := kb_nf hc2 | have hc2n := hc2
    first | have hc2m := of_decide_eq_true hc2n | have hc2m := of_decide_eq_false hc2n | have hc2m := kb_eq hc2n | have hc2m := kb_ne hc2n | have hc2m := kb_bne hc2n | have hc2m := kb_nbne hc2n | have hc2m := isIx_t hc2n | have hc2m := isIx_f hc2n | have hc2m := inR_t hc2n | have hc2m := inR_f hc2n | have hc2m := dec_tt hc2n | have hc2m := dec_ff hc2n | have hc2m := hc2n
    try simp only [List.get_eq_getElem] at hc2n
    try simp only [List.get_eq_getElem] at hc2m
    refine kwp_skip ?_
    refine kn_then ?_
    refine kwp_seq ?_
    refine kwp_block ?_
    refine kwp_region ?_
    refine kops_d rfl rfl (opv_move rfl rfl) ?_
    refine kops_d rfl rfl (opv_move rfl rfl) ?_
    refine kops_step rfl (opk_buildSlice (vs := [_]) rfl rfl rfl Try.runUnderlying39 Try.sizeOf3 Try.zeroValue3 rfl (by decide) (by simp [Value.cells]) (by decide) (fun a13 => ?_))
    refine kops_step rfl (opk_append rfl rfl rfl Try.underlying39 Try.type3 rfl rfl rfl (by repeat (first | exact List.Mem.head _ | apply List.Mem.tail)) (by first | exact one_aw | exact one_leg | exact one_lit _ rfl | exact one_int | exact one_sill | decide | (simp [Value.oneCell']; done) | (intro x hx; simp at hx; rcases hx with rfl | rfl | rfl | rfl | rfl <;> rfl)) (by repeat (first | exact Pick.here | apply Pick.there)) (by first | omega | (simp; omega)) (show _ * 8 ≤ 140737488355328 by first | omega | (simp; omega)) (fun a14 c14 => ?_))
    refine kops_d rfl rfl (opv_assign rfl rfl) ?_
    refine kops_nil ?_
    refine kn_block ?_
    refine kn_then ?_
    refine kwp_region ?_
    refine kops_d rfl rfl (opv_move rfl rfl) ?_
    refine kops_d rfl rfl (by first | exact opv_add rfl rfl rfl ⟨by omega, by omega⟩ | exact opv_ari rfl rfl rfl rfl) ?_
    refine kops_d rfl rfl (opv_assign rfl rfl) ?_
    refine kops_nil ?_
    refine kn_then ?_
    exact ⟨k + 1, a14, c14, ⟨by first | trivial | omega | (refine ⟨?_, ?_⟩ <;> omega) | (simp; done), by (repeat (first | exact Knows.nil _ | refine Knows.cons2 rfl (by first | rfl | (congr 1; omega) | exact ownL_snoc) ?_)), by (repeat (first | exact Sub.refl _ | exact Sub.nil _ | refine Sub.chunk (by repeat (first | exact Pick.here | apply Pick.there)) (by first | rfl | (congr 1; omega) | exact ownL_snoc) ?_))⟩, by omega⟩
  ·
    first | have hc2n := kb_nt hc2 | have hc2n := kb_nf hc2 | have hc2n := hc2
    first | have hc2m := of_decide_eq_true hc2n | have hc2m := of_decide_eq_false hc2n | have hc2m := kb_eq hc2n | have hc2m := kb_ne hc2n | have hc2m := kb_bne hc2n | have hc2m := kb_nbne hc2n | have hc2m := isIx_t hc2n | have hc2m := isIx_f hc2n | have hc2m := inR_t hc2n | have hc2m := inR_f hc2n | have hc2m := dec_tt hc2n | have hc2m := dec_ff hc2n | have hc2m := hc2n
    try simp only [List.get_eq_getElem] at hc2n
    try simp only [List.get_eq_getElem] at hc2m
    refine kwp_exit ?_
    refine ke_then ?_
    refine ke_then ?_
    refine ke_block ?_
    refine kn_then ?_
    refine kwp_seq ?_
    refine kwp_region ?_
    refine kops_d rfl rfl (opv_move rfl rfl) ?_
    refine kops_d rfl rfl (opv_assign rfl rfl) ?_
    refine kops_nil ?_
    refine kn_then ?_
    refine kwp_ret ?_
    refine kret1 [⟨.slice a1 k c1, 1, (ownL k).map encI⟩] rfl rfl ?_ (by (repeat (first | exact Sub.refl _ | exact Sub.nil _ | refine Sub.chunk (by repeat (first | exact Pick.here | apply Pick.there)) (by first | rfl | (simp; done) | (congr 1; omega)) ?_)))
    (obtain rfl : k = n.toNat := by omega); exact ⟨_, _, rfl, rfl⟩

set_option maxRecDepth 20000 in
theorem c_spec_l1Parts (st : Int) (aL : Option Addr) (nL cL : Nat) (L : List Leg) (aU : Option Addr) (nU cU : Nat) (U : List Int) (hS : SurveyOk st L) (hU : AreIx U nL) (hb : nL ≤ 1048576 ∧ nU ≤ 1048576) :
    Triple Try.prog 89 [.agg #[.int .i64 st, .slice aL nL cL], .slice aU nU cU] [⟨.slice aL nL cL, 5, L.map encLeg⟩, ⟨.slice aU nU cU, 1, U.map encI⟩] [] (fun r ch => ∃ a' c', r = .slice a' st.toNat c' ∧ ch = [⟨.slice a' st.toNat c', 1, (partsTo st.toNat (uends (lends L) U) nU).map encI⟩]) := by
  refine triple_start 73 Try.func89 Try.ntmps89 rfl rfl (fun w0 => ?_)
  refine kwp_len (List.Mem.head _) (fun hnL => ?_)
  refine kwp_len (List.Mem.tail _ (List.Mem.head _)) (fun hnU => ?_)
  simp only [List.length_map] at hnL hnU
  subst hnL hnU
  have hs1 := hS.s1
  have hs6 := hS.s6
  refine kwp_seq ?_
  refine kwp_region ?_
  refine kops_step rfl (opk_box' (e := [_, _]) 2 rfl rfl rfl rfl (by decide) (fun p2 => ?_))
  refine kops_d rfl rfl (opv_assign rfl rfl) ?_
  refine kops_nil ?_
  refine kn_then ?_
  refine kwp_seq ?_
  refine kwp_region ?_
  refine kops_step rfl (opk_buildSlice (vs := []) rfl rfl rfl Try.runUnderlying39 Try.sizeOf3 Try.zeroValue3 rfl (by decide) (by simp [Value.cells]) (by decide) (fun a11 => ?_))
  refine kops_d rfl rfl (opv_assign rfl rfl) ?_
  refine kops_nil ?_
  refine kn_then ?_
  refine kwp_seq ?_
  refine kwp_seq ?_
  refine kwp_region ?_
  refine kops_d rfl rfl (opv_assign rfl rfl) ?_
  refine kops_nil ?_
  refine kn_then ?_
  refine kwp_block ?_
  refine kwp_loop3 (inv := [(1, _), (2, _), (4, _)]) (ic := [⟨.pointer (some p2), _, _⟩])
    (fun (k : Nat) (a1 : Option Addr) (c1 : Nat) => [(5, .slice a1 k c1), (6, .int .i64 k)])
    (fun (k : Nat) (a1 : Option Addr) (c1 : Nat) => [⟨.slice a1 k c1, 1, (ownL k).map encI⟩])
    (fun (k : Nat) (a1 : Option Addr) (c1 : Nat) => k ≤ st.toNat)
    (fun (k : Nat) (a1 : Option Addr) (c1 : Nat) => st.toNat - k)
    ⟨0, some a11, 0, ⟨by first | trivial | omega | (refine ⟨?_, ?_⟩ <;> omega) | (simp; done), by (repeat (first | exact Knows.nil _ | refine Knows.cons2 rfl (by first | rfl | (simp; done) | (congr 1; omega)) ?_)), by (repeat (first | exact Sub.refl _ | exact Sub.nil _ | refine Sub.chunk (by repeat (first | exact Pick.here | apply Pick.there)) (by first | rfl | (simp; done) | (congr 1; omega)) ?_))⟩⟩ (fun k a1 c1 hp => ?_)
  refine kwp_seq ?_
  refine kwp_seq ?_
  refine kwp_region ?_
  refine kops_d rfl rfl (opv_move rfl rfl) ?_
  refine kops_d rfl rfl (opv_fab rfl rfl fa_93_0 (by repeat (first | exact List.Mem.head _ | apply List.Mem.tail))) ?_
  refine kops_d rfl rfl (opv_load rfl rfl Try.isAgg3 (by repeat (first | exact List.Mem.head _ | apply List.Mem.tail)) (by first | rfl | exact gx_map (by first | omega | (simp only [List.length_set, ownL_len, partsTo_len, joinP_len]; omega)) | exact mixi_get (by first | exact joinP_len | (simp only [ownL_len, List.length_replicate])) (by first | omega | (simp only [ownL_len, partsTo_len, joinP_len, List.length_replicate]; omega)) | (simp; done)) rfl) ?_
  refine kops_d rfl rfl (opv_cmp rfl rfl rfl rfl) ?_
  refine kops_nil ?_
  refine kn_then ?_
  refine kwp_cond rfl (fun hc2 => ?_) (fun hc2 => ?_)
  ·
    first | have hc2n := kb_nt hc2 | have hc2n := kb_nf hc2 | have hc2n := hc2
    first | have hc2m := of_decide_eq_true hc2n | have hc2m := of_decide_eq_false hc2n | have hc2m := kb_eq hc2n | have hc2m := kb_ne hc2n | have hc2m := kb_bne hc2n | have hc2m := kb_nbne hc2n | have hc2m := isIx_t hc2n | have hc2m := isIx_f hc2n | have hc2m := inR_t hc2n | have hc2m := inR_f hc2n | have hc2m := dec_tt hc2n | have hc2m := dec_ff hc2n | have hc2m := hc2n
    try simp only [List.get_eq_getElem] at hc2n
    try simp only [List.get_eq_getElem] at hc2m
    try have hum := hU m (by omega)
    try (have hX := hS.lg (gx U m).toNat (by omega); obtain ⟨hf0, hf1, ht0, ht1, -⟩ := hX)
    try have hjg := joinP_gx (L := partsTo st.toNat (uends (lends L) U) m) (a := (gx L (gx U m).toNat).f.toNat) (b := (gx L (gx U m).toNat).t.toNat) (i := j) (by rw [partsTo_len]; omega)
    refine kwp_skip ?_
    refine kn_then ?_
    refine kwp_seq ?_
    refine kwp_block ?_
    refine kwp_region ?_
    refine kops_d rfl rfl (opv_move rfl rfl) ?_
    refine kops_d rfl rfl (opv_move rfl rfl) ?_
    refine kops_step rfl (opk_buildSlice (vs := [_]) rfl rfl rfl Try.runUnderlying39 Try.sizeOf3 Try.zeroValue3 rfl (by decide) (by simp [Value.cells]) (by decide) (fun a20 => ?_))
    refine kops_step rfl (opk_append rfl rfl rfl Try.underlying39 Try.type3 rfl rfl rfl (by repeat (first | exact List.Mem.head _ | apply List.Mem.tail)) (by first | exact one_aw | exact one_leg | exact one_lit _ rfl | exact one_int | exact one_sill | decide | (simp [Value.oneCell']; done) | (intro x hx; simp at hx; rcases hx with rfl | rfl | rfl | rfl | rfl <;> rfl)) (by repeat (first | exact Pick.here | apply Pick.there)) (by first | omega | (simp; omega)) (show _ * 8 ≤ 140737488355328 by first | omega | (simp; omega)) (fun a21 c21 => ?_))
    refine kops_d rfl rfl (opv_assign rfl rfl) ?_
    refine kops_nil ?_
    refine kn_block ?_
    refine kn_then ?_
    refine kwp_region ?_
    refine kops_d rfl rfl (opv_move rfl rfl) ?_
    refine kops_d rfl rfl (by first | exact opv_add rfl rfl rfl ⟨by omega, by omega⟩ | exact opv_ari rfl rfl rfl rfl) ?_
    refine kops_d rfl rfl (opv_assign rfl rfl) ?_
    refine kops_nil ?_
    refine kn_then ?_
    exact ⟨k + 1, a21, c21, ⟨by first | trivial | omega | (refine ⟨?_, ?_⟩ <;> omega) | (simp; done), by (repeat (first | exact Knows.nil _ | refine Knows.cons2 rfl (by first | rfl | (congr 1; omega) | exact ownL_snoc) ?_)), by (repeat (first | exact Sub.refl _ | exact Sub.nil _ | refine Sub.chunk (by repeat (first | exact Pick.here | apply Pick.there)) (by first | rfl | (congr 1; omega) | exact ownL_snoc) ?_))⟩, by omega⟩
  ·
    first | have hc2n := kb_nt hc2 | have hc2n := kb_nf hc2 | have hc2n := hc2
    first | have hc2m := of_decide_eq_true hc2n | have hc2m := of_decide_eq_false hc2n | have hc2m := kb_eq hc2n | have hc2m := kb_ne hc2n | have hc2m := kb_bne hc2n | have hc2m := kb_nbne hc2n | have hc2m := isIx_t hc2n | have hc2m := isIx_f hc2n | have hc2m := inR_t hc2n | have hc2m := inR_f hc2n | have hc2m := dec_tt hc2n | have hc2m := dec_ff hc2n | have hc2m := hc2n
    try simp only [List.get_eq_getElem] at hc2n
    try simp only [List.get_eq_getElem] at hc2m
    try have hum := hU m (by omega)
    try (have hX := hS.lg (gx U m).toNat (by omega); obtain ⟨hf0, hf1, ht0, ht1, -⟩ := hX)
    try have hjg := joinP_gx (L := partsTo st.toNat (uends (lends L) U) m) (a := (gx L (gx U m).toNat).f.toNat) (b := (gx L (gx U m).toNat).t.toNat) (i := j) (by rw [partsTo_len]; omega)
    refine kwp_exit ?_
    refine ke_then ?_
    refine ke_then ?_
    refine ke_block ?_
    refine kn_then ?_
    refine kwp_seq ?_
    refine kwp_seq ?_
    refine kwp_region ?_
    refine kops_d rfl rfl (opv_assign rfl rfl) ?_
    refine kops_nil ?_
    refine kn_then ?_
    refine kwp_block ?_
    obtain rfl : k = st.toNat := by omega
    refine kwp_loop1 (inv := [(1, _), (2, _), (4, _), (5, _)]) (ic := [⟨.pointer (some p2), _, _⟩])
      (fun (m : Nat) => [(7, .int .i64 m)])
      (fun (m : Nat) => [⟨.slice a1 st.toNat c1, 1, (partsTo st.toNat (uends (lends L) U) m).map encI⟩])
      (fun (m : Nat) => m ≤ U.length)
      (fun (m : Nat) => U.length - m)
      ⟨0, ⟨by first | trivial | omega | (refine ⟨?_, ?_⟩ <;> omega) | (simp; done), by (repeat (first | exact Knows.nil _ | refine Knows.cons2 rfl (by first | rfl | (simp; done) | (congr 1; omega)) ?_)), by (repeat (first | exact Sub.refl _ | exact Sub.nil _ | refine Sub.chunk (by repeat (first | exact Pick.here | apply Pick.there)) (by first | rfl | (simp; done) | (congr 1; omega)) ?_))⟩⟩ (fun m hp => ?_)
    refine kwp_seq ?_
    refine kwp_seq ?_
    refine kwp_region ?_
    refine kops_d rfl rfl (opv_move rfl rfl) ?_
    refine kops_d rfl rfl (opv_move rfl rfl) ?_
    refine kops_d rfl rfl (opv_len rfl rfl rfl Try.runUnderlying39) ?_
    refine kops_d rfl rfl (opv_cmp rfl rfl rfl rfl) ?_
    refine kops_nil ?_
    refine kn_then ?_
    refine kwp_cond rfl (fun hc4 => ?_) (fun hc4 => ?_)
    ·
      first | have hc4n := kb_nt hc4 | have hc4n := kb_nf hc4 | have hc4n := hc4
      first | have hc4m := of_decide_eq_true hc4n | have hc4m := of_decide_eq_false hc4n | have hc4m := kb_eq hc4n | have hc4m := kb_ne hc4n | have hc4m := kb_bne hc4n | have hc4m := kb_nbne hc4n | have hc4m := isIx_t hc4n | have hc4m := isIx_f hc4n | have hc4m := inR_t hc4n | have hc4m := inR_f hc4n | have hc4m := dec_tt hc4n | have hc4m := dec_ff hc4n | have hc4m := hc4n
      try simp only [List.get_eq_getElem] at hc4n
      try simp only [List.get_eq_getElem] at hc4m
      try have hum := hU m (by omega)
      try (have hX := hS.lg (gx U m).toNat (by omega); obtain ⟨hf0, hf1, ht0, ht1, -⟩ := hX)
      try have hjg := joinP_gx (L := partsTo st.toNat (uends (lends L) U) m) (a := (gx L (gx U m).toNat).f.toNat) (b := (gx L (gx U m).toNat).t.toNat) (i := j) (by rw [partsTo_len]; omega)
      refine kwp_skip ?_
      refine kn_then ?_
      refine kwp_seq ?_
      refine kwp_block ?_
      refine kwp_seq ?_
      refine kwp_draw [(0, true), (1, true), (2, true), (3, true), (4, true), (5, true), (6, true), (7, true), (8, true), (9, true), (10, true), (11, true), (12, true)] [] _ drawMixed (by kernel_rfl) (fun _ _ _ h => h) (Sub.refl _) ?_
      refine ks_d rfl rfl rfl (opv_move rfl rfl) ?_
      refine ks_d rfl rfl rfl (opv_fab rfl rfl fa_93_1 (by repeat (first | exact List.Mem.head _ | apply List.Mem.tail))) ?_
      refine ks_d rfl rfl rfl (opv_load rfl rfl Try.isAgg91 (by repeat (first | exact List.Mem.head _ | apply List.Mem.tail)) (by first | rfl | exact gx_map (by first | omega | (simp only [List.length_set, ownL_len, partsTo_len, joinP_len]; omega)) | exact mixi_get (by first | exact joinP_len | (simp only [ownL_len, List.length_replicate])) (by first | omega | (simp only [ownL_len, partsTo_len, joinP_len, List.length_replicate]; omega)) | (simp; done)) rfl) ?_
      refine ks_d rfl rfl rfl (opv_move rfl rfl) ?_
      refine ks_d rfl rfl rfl (opv_move rfl rfl) ?_
      refine ks_d rfl rfl rfl (opv_ia rfl rfl rfl Try.runUnderlying39 Try.sizeOf3 (by repeat (first | exact List.Mem.head _ | apply List.Mem.tail)) (by first | rfl | exact (Int.toNat_of_nonneg (by omega)).symm) (by first | omega | (simp only [List.length_map]; omega) | (simp only [List.length_set, List.length_map, ownL_len, partsTo_len, joinP_len]; omega) | (rw [mix_len joinP_len]; omega) | (rw [List.length_map, mix_len joinP_len]; omega) | (rw [mix_len (by simp [ownL_len])]; simp only [List.length_replicate]; omega) | (rw [List.length_map, mix_len (by simp [ownL_len])]; simp only [List.length_replicate]; omega) | (rw [List.length_map, mix_len joinP_len, partsTo_len]; omega) | (rw [mix_len joinP_len, partsTo_len]; omega) | (simp; omega) | (simp; done))) ?_
      refine ks_d rfl rfl rfl (opv_load rfl rfl Try.isAgg3 (by repeat (first | exact List.Mem.head _ | apply List.Mem.tail)) (by first | rfl | exact gx_map (by first | omega | (simp only [List.length_set, ownL_len, partsTo_len, joinP_len]; omega)) | exact mixi_get (by first | exact joinP_len | (simp only [ownL_len, List.length_replicate])) (by first | omega | (simp only [ownL_len, partsTo_len, joinP_len, List.length_replicate]; omega)) | (simp; done)) rfl) ?_
      refine ks_d rfl rfl rfl (opv_ia rfl rfl rfl Try.runUnderlying91 Try.sizeOf111 (by repeat (first | exact List.Mem.head _ | apply List.Mem.tail)) (by first | rfl | exact (Int.toNat_of_nonneg (by omega)).symm) (by first | omega | (simp only [List.length_map]; omega) | (simp only [List.length_set, List.length_map, ownL_len, partsTo_len, joinP_len]; omega) | (rw [mix_len joinP_len]; omega) | (rw [List.length_map, mix_len joinP_len]; omega) | (rw [mix_len (by simp [ownL_len])]; simp only [List.length_replicate]; omega) | (rw [List.length_map, mix_len (by simp [ownL_len])]; simp only [List.length_replicate]; omega) | (rw [List.length_map, mix_len joinP_len, partsTo_len]; omega) | (rw [mix_len joinP_len, partsTo_len]; omega) | (simp; omega) | (simp; done))) ?_
      refine ks_d rfl rfl rfl (opv_fa rfl rfl fa_111_0 (by repeat (first | exact List.Mem.head _ | apply List.Mem.tail)) (by first | omega | (simp only [List.length_map]; omega) | (simp only [List.length_set, List.length_map, ownL_len, partsTo_len, joinP_len]; omega) | (rw [mix_len joinP_len]; omega) | (rw [List.length_map, mix_len joinP_len]; omega) | (rw [mix_len (by simp [ownL_len])]; simp only [List.length_replicate]; omega) | (rw [List.length_map, mix_len (by simp [ownL_len])]; simp only [List.length_replicate]; omega) | (rw [List.length_map, mix_len joinP_len, partsTo_len]; omega) | (rw [mix_len joinP_len, partsTo_len]; omega) | (simp; omega) | (simp; done))) ?_
      refine ks_d rfl rfl rfl (opv_load rfl rfl Try.isAgg3 (by repeat (first | exact List.Mem.head _ | apply List.Mem.tail)) (by first | rfl | exact gx_map (by first | omega | (simp only [List.length_set, ownL_len, partsTo_len, joinP_len]; omega)) | exact mixi_get (by first | exact joinP_len | (simp only [ownL_len, List.length_replicate])) (by first | omega | (simp only [ownL_len, partsTo_len, joinP_len, List.length_replicate]; omega)) | (simp; done)) rfl) ?_
      refine ks_d rfl rfl rfl (opv_ia rfl rfl rfl Try.runUnderlying39 Try.sizeOf3 (by repeat (first | exact List.Mem.head _ | apply List.Mem.tail)) (by first | rfl | exact (Int.toNat_of_nonneg (by omega)).symm) (by first | omega | (simp only [List.length_map]; omega) | (simp only [List.length_set, List.length_map, ownL_len, partsTo_len, joinP_len]; omega) | (rw [mix_len joinP_len]; omega) | (rw [List.length_map, mix_len joinP_len]; omega) | (rw [mix_len (by simp [ownL_len])]; simp only [List.length_replicate]; omega) | (rw [List.length_map, mix_len (by simp [ownL_len])]; simp only [List.length_replicate]; omega) | (rw [List.length_map, mix_len joinP_len, partsTo_len]; omega) | (rw [mix_len joinP_len, partsTo_len]; omega) | (simp; omega) | (simp; done))) ?_
      refine ks_d rfl rfl rfl (opv_load rfl rfl Try.isAgg3 (by repeat (first | exact List.Mem.head _ | apply List.Mem.tail)) (by first | rfl | exact gx_map (by first | omega | (simp only [List.length_set, ownL_len, partsTo_len, joinP_len]; omega)) | exact mixi_get (by first | exact joinP_len | (simp only [ownL_len, List.length_replicate])) (by first | omega | (simp only [ownL_len, partsTo_len, joinP_len, List.length_replicate]; omega)) | (simp; done)) rfl) ?_
      refine ks_d rfl rfl rfl (opv_assign rfl rfl) ?_
      refine ks_nil ?_
      refine kn_then ?_
      refine kwp_seq ?_
      refine kwp_draw [(0, true), (1, true), (2, true), (3, true), (4, true), (5, true), (6, true), (7, true), (8, true), (9, true), (10, true), (11, true), (12, true)] [] _ drawMixed (by kernel_rfl) (fun _ _ _ h => h) (Sub.refl _) ?_
      refine ks_d rfl rfl rfl (opv_move rfl rfl) ?_
      refine ks_d rfl rfl rfl (opv_fab rfl rfl fa_93_1 (by repeat (first | exact List.Mem.head _ | apply List.Mem.tail))) ?_
      refine ks_d rfl rfl rfl (opv_load rfl rfl Try.isAgg91 (by repeat (first | exact List.Mem.head _ | apply List.Mem.tail)) (by first | rfl | exact gx_map (by first | omega | (simp only [List.length_set, ownL_len, partsTo_len, joinP_len]; omega)) | exact mixi_get (by first | exact joinP_len | (simp only [ownL_len, List.length_replicate])) (by first | omega | (simp only [ownL_len, partsTo_len, joinP_len, List.length_replicate]; omega)) | (simp; done)) rfl) ?_
      refine ks_d rfl rfl rfl (opv_move rfl rfl) ?_
      refine ks_d rfl rfl rfl (opv_move rfl rfl) ?_
      refine ks_d rfl rfl rfl (opv_ia rfl rfl rfl Try.runUnderlying39 Try.sizeOf3 (by repeat (first | exact List.Mem.head _ | apply List.Mem.tail)) (by first | rfl | exact (Int.toNat_of_nonneg (by omega)).symm) (by first | omega | (simp only [List.length_map]; omega) | (simp only [List.length_set, List.length_map, ownL_len, partsTo_len, joinP_len]; omega) | (rw [mix_len joinP_len]; omega) | (rw [List.length_map, mix_len joinP_len]; omega) | (rw [mix_len (by simp [ownL_len])]; simp only [List.length_replicate]; omega) | (rw [List.length_map, mix_len (by simp [ownL_len])]; simp only [List.length_replicate]; omega) | (rw [List.length_map, mix_len joinP_len, partsTo_len]; omega) | (rw [mix_len joinP_len, partsTo_len]; omega) | (simp; omega) | (simp; done))) ?_
      refine ks_d rfl rfl rfl (opv_load rfl rfl Try.isAgg3 (by repeat (first | exact List.Mem.head _ | apply List.Mem.tail)) (by first | rfl | exact gx_map (by first | omega | (simp only [List.length_set, ownL_len, partsTo_len, joinP_len]; omega)) | exact mixi_get (by first | exact joinP_len | (simp only [ownL_len, List.length_replicate])) (by first | omega | (simp only [ownL_len, partsTo_len, joinP_len, List.length_replicate]; omega)) | (simp; done)) rfl) ?_
      refine ks_d rfl rfl rfl (opv_ia rfl rfl rfl Try.runUnderlying91 Try.sizeOf111 (by repeat (first | exact List.Mem.head _ | apply List.Mem.tail)) (by first | rfl | exact (Int.toNat_of_nonneg (by omega)).symm) (by first | omega | (simp only [List.length_map]; omega) | (simp only [List.length_set, List.length_map, ownL_len, partsTo_len, joinP_len]; omega) | (rw [mix_len joinP_len]; omega) | (rw [List.length_map, mix_len joinP_len]; omega) | (rw [mix_len (by simp [ownL_len])]; simp only [List.length_replicate]; omega) | (rw [List.length_map, mix_len (by simp [ownL_len])]; simp only [List.length_replicate]; omega) | (rw [List.length_map, mix_len joinP_len, partsTo_len]; omega) | (rw [mix_len joinP_len, partsTo_len]; omega) | (simp; omega) | (simp; done))) ?_
      refine ks_d rfl rfl rfl (opv_fa rfl rfl fa_111_1 (by repeat (first | exact List.Mem.head _ | apply List.Mem.tail)) (by first | omega | (simp only [List.length_map]; omega) | (simp only [List.length_set, List.length_map, ownL_len, partsTo_len, joinP_len]; omega) | (rw [mix_len joinP_len]; omega) | (rw [List.length_map, mix_len joinP_len]; omega) | (rw [mix_len (by simp [ownL_len])]; simp only [List.length_replicate]; omega) | (rw [List.length_map, mix_len (by simp [ownL_len])]; simp only [List.length_replicate]; omega) | (rw [List.length_map, mix_len joinP_len, partsTo_len]; omega) | (rw [mix_len joinP_len, partsTo_len]; omega) | (simp; omega) | (simp; done))) ?_
      refine ks_d rfl rfl rfl (opv_load rfl rfl Try.isAgg3 (by repeat (first | exact List.Mem.head _ | apply List.Mem.tail)) (by first | rfl | exact gx_map (by first | omega | (simp only [List.length_set, ownL_len, partsTo_len, joinP_len]; omega)) | exact mixi_get (by first | exact joinP_len | (simp only [ownL_len, List.length_replicate])) (by first | omega | (simp only [ownL_len, partsTo_len, joinP_len, List.length_replicate]; omega)) | (simp; done)) rfl) ?_
      refine ks_d rfl rfl rfl (opv_ia rfl rfl rfl Try.runUnderlying39 Try.sizeOf3 (by repeat (first | exact List.Mem.head _ | apply List.Mem.tail)) (by first | rfl | exact (Int.toNat_of_nonneg (by omega)).symm) (by first | omega | (simp only [List.length_map]; omega) | (simp only [List.length_set, List.length_map, ownL_len, partsTo_len, joinP_len]; omega) | (rw [mix_len joinP_len]; omega) | (rw [List.length_map, mix_len joinP_len]; omega) | (rw [mix_len (by simp [ownL_len])]; simp only [List.length_replicate]; omega) | (rw [List.length_map, mix_len (by simp [ownL_len])]; simp only [List.length_replicate]; omega) | (rw [List.length_map, mix_len joinP_len, partsTo_len]; omega) | (rw [mix_len joinP_len, partsTo_len]; omega) | (simp; omega) | (simp; done))) ?_
      refine ks_d rfl rfl rfl (opv_load rfl rfl Try.isAgg3 (by repeat (first | exact List.Mem.head _ | apply List.Mem.tail)) (by first | rfl | exact gx_map (by first | omega | (simp only [List.length_set, ownL_len, partsTo_len, joinP_len]; omega)) | exact mixi_get (by first | exact joinP_len | (simp only [ownL_len, List.length_replicate])) (by first | omega | (simp only [ownL_len, partsTo_len, joinP_len, List.length_replicate]; omega)) | (simp; done)) rfl) ?_
      refine ks_d rfl rfl rfl (opv_assign rfl rfl) ?_
      refine ks_nil ?_
      refine kn_then ?_
      refine kwp_seq ?_
      refine kwp_region ?_
      refine kops_d rfl rfl (opv_assign rfl rfl) ?_
      refine kops_nil ?_
      refine kn_then ?_
      refine kwp_block ?_
      refine kwp_loop1 (inv := [(1, _), (2, _), (4, _), (5, _), (7, _), (8, _), (9, _), (22, _), (23, _), (24, _), (25, _), (28, _), (29, _), (30, _), (31, _), (32, _), (33, _), (34, _), (35, _), (36, _), (37, _), (38, _), (39, _), (40, _), (41, _), (42, _), (43, _), (44, _), (45, _), (46, _), (47, _), (48, _), (49, _), (50, _), (51, _)]) (ic := [⟨.pointer (some p2), _, _⟩])
        (fun (j : Nat) => [(10, .int .i64 j)])
        (fun (j : Nat) => [⟨.slice a1 st.toNat c1, 1, (mixL (joinP (partsTo st.toNat (uends (lends L) U) m) (gx L (gx U m).toNat).f.toNat (gx L (gx U m).toNat).t.toNat) (partsTo st.toNat (uends (lends L) U) m) j).map encI⟩])
        (fun (j : Nat) => j ≤ st.toNat)
        (fun (j : Nat) => st.toNat - j)
        ⟨0, ⟨by first | trivial | omega | (refine ⟨?_, ?_⟩ <;> omega) | (simp; done), by (repeat (first | exact Knows.nil _ | refine Knows.cons2 rfl (by first | rfl | (rw [mix_zero])) ?_)), by (repeat (first | exact Sub.refl _ | exact Sub.nil _ | refine Sub.chunk (by repeat (first | exact Pick.here | apply Pick.there)) (by first | rfl | (rw [mix_zero])) ?_))⟩⟩ (fun j hp => ?_)
      refine kwp_seq ?_
      refine kwp_seq ?_
      refine kwp_region ?_
      refine kops_d rfl rfl (opv_move rfl rfl) ?_
      refine kops_d rfl rfl (opv_move rfl rfl) ?_
      refine kops_d rfl rfl (opv_len rfl rfl rfl Try.runUnderlying39) ?_
      refine kops_d rfl rfl (opv_cmp rfl rfl rfl rfl) ?_
      refine kops_nil ?_
      refine kn_then ?_
      refine kwp_cond rfl (fun hc6 => ?_) (fun hc6 => ?_)
      ·
        first | have hc6n := kb_nt hc6 | have hc6n := kb_nf hc6 | have hc6n := hc6
        first | have hc6m := of_decide_eq_true hc6n | have hc6m := of_decide_eq_false hc6n | have hc6m := kb_eq hc6n | have hc6m := kb_ne hc6n | have hc6m := kb_bne hc6n | have hc6m := kb_nbne hc6n | have hc6m := isIx_t hc6n | have hc6m := isIx_f hc6n | have hc6m := inR_t hc6n | have hc6m := inR_f hc6n | have hc6m := dec_tt hc6n | have hc6m := dec_ff hc6n | have hc6m := hc6n
        try simp only [List.get_eq_getElem] at hc6n
        try simp only [List.get_eq_getElem] at hc6m
        try have hum := hU m (by omega)
        try (have hX := hS.lg (gx U m).toNat (by omega); obtain ⟨hf0, hf1, ht0, ht1, -⟩ := hX)
        try have hjg := joinP_gx (L := partsTo st.toNat (uends (lends L) U) m) (a := (gx L (gx U m).toNat).f.toNat) (b := (gx L (gx U m).toNat).t.toNat) (i := j) (by rw [partsTo_len]; omega)
        refine kwp_skip ?_
        refine kn_then ?_
        refine kwp_seq ?_
        refine kwp_block ?_
        refine kwp_seq ?_
        refine kwp_region ?_
        refine kops_d rfl rfl (opv_move rfl rfl) ?_
        refine kops_d rfl rfl (opv_move rfl rfl) ?_
        refine kops_d rfl rfl (opv_ia rfl rfl rfl Try.runUnderlying39 Try.sizeOf3 (by repeat (first | exact List.Mem.head _ | apply List.Mem.tail)) (by first | rfl | exact (Int.toNat_of_nonneg (by omega)).symm) (by first | omega | (simp only [List.length_map]; omega) | (simp only [List.length_set, List.length_map, ownL_len, partsTo_len, joinP_len]; omega) | (rw [mix_len joinP_len]; omega) | (rw [List.length_map, mix_len joinP_len]; omega) | (rw [mix_len (by simp [ownL_len])]; simp only [List.length_replicate]; omega) | (rw [List.length_map, mix_len (by simp [ownL_len])]; simp only [List.length_replicate]; omega) | (rw [List.length_map, mix_len joinP_len, partsTo_len]; omega) | (rw [mix_len joinP_len, partsTo_len]; omega) | (simp; omega) | (simp; done))) ?_
        refine kops_d rfl rfl (opv_load rfl rfl Try.isAgg3 (by repeat (first | exact List.Mem.head _ | apply List.Mem.tail)) (by first | rfl | exact gx_map (by first | omega | (simp only [List.length_set, ownL_len, partsTo_len, joinP_len]; omega)) | exact mixi_get (by first | exact joinP_len | (simp only [ownL_len, List.length_replicate])) (by first | omega | (simp only [ownL_len, partsTo_len, joinP_len, List.length_replicate]; omega)) | (simp; done)) rfl) ?_
        refine kops_d rfl rfl (opv_move rfl rfl) ?_
        refine kops_d rfl rfl (opv_move rfl rfl) ?_
        refine kops_d rfl rfl (opv_max rfl rfl rfl) ?_
        refine kops_d rfl rfl (opv_cmp rfl rfl rfl rfl) ?_
        refine kops_nil ?_
        refine kn_then ?_
        refine kwp_cond rfl (fun hc8 => ?_) (fun hc8 => ?_)
        ·
          first | have hc8n := kb_nt hc8 | have hc8n := kb_nf hc8 | have hc8n := hc8
          first | have hc8m := of_decide_eq_true hc8n | have hc8m := of_decide_eq_false hc8n | have hc8m := kb_eq hc8n | have hc8m := kb_ne hc8n | have hc8m := kb_bne hc8n | have hc8m := kb_nbne hc8n | have hc8m := isIx_t hc8n | have hc8m := isIx_f hc8n | have hc8m := inR_t hc8n | have hc8m := inR_f hc8n | have hc8m := dec_tt hc8n | have hc8m := dec_ff hc8n | have hc8m := hc8n
          try simp only [List.get_eq_getElem] at hc8n
          try simp only [List.get_eq_getElem] at hc8m
          try have hum := hU m (by omega)
          try (have hX := hS.lg (gx U m).toNat (by omega); obtain ⟨hf0, hf1, ht0, ht1, -⟩ := hX)
          try have hjg := joinP_gx (L := partsTo st.toNat (uends (lends L) U) m) (a := (gx L (gx U m).toNat).f.toNat) (b := (gx L (gx U m).toNat).t.toNat) (i := j) (by rw [partsTo_len]; omega)
          refine kwp_region ?_
          refine kops_d rfl rfl (opv_move rfl rfl) ?_
          refine kops_d rfl rfl (opv_move rfl rfl) ?_
          refine kops_d rfl rfl (opv_move rfl rfl) ?_
          refine kops_d rfl rfl (opv_move rfl rfl) ?_
          refine kops_d rfl rfl (opv_min rfl rfl rfl) ?_
          refine kops_d rfl rfl (opv_ia rfl rfl rfl Try.runUnderlying39 Try.sizeOf3 (by repeat (first | exact List.Mem.head _ | apply List.Mem.tail)) (by first | rfl | exact (Int.toNat_of_nonneg (by omega)).symm) (by first | omega | (simp only [List.length_map]; omega) | (simp only [List.length_set, List.length_map, ownL_len, partsTo_len, joinP_len]; omega) | (rw [mix_len joinP_len]; omega) | (rw [List.length_map, mix_len joinP_len]; omega) | (rw [mix_len (by simp [ownL_len])]; simp only [List.length_replicate]; omega) | (rw [List.length_map, mix_len (by simp [ownL_len])]; simp only [List.length_replicate]; omega) | (rw [List.length_map, mix_len joinP_len, partsTo_len]; omega) | (rw [mix_len joinP_len, partsTo_len]; omega) | (simp; omega) | (simp; done))) ?_
          first | refine kops_step rfl (opk_store_i rfl rfl rfl Try.sizeOf3 (by repeat (first | exact Upd.here | apply Upd.there)) (by first | omega | (simp only [List.length_map]; omega) | (simp only [List.length_set, List.length_map, ownL_len, partsTo_len, joinP_len]; omega) | (rw [mix_len joinP_len]; omega) | (rw [List.length_map, mix_len joinP_len]; omega) | (rw [mix_len (by simp [ownL_len])]; simp only [List.length_replicate]; omega) | (rw [List.length_map, mix_len (by simp [ownL_len])]; simp only [List.length_replicate]; omega) | (rw [List.length_map, mix_len joinP_len, partsTo_len]; omega) | (rw [mix_len joinP_len, partsTo_len]; omega) | (simp; omega) | (simp; done)) ?_) | refine kops_step rfl (opk_store rfl rfl rfl Try.sizeOf3 rfl (by repeat (first | exact Upd.here | apply Upd.there)) (by first | rfl | exact gx_map (by first | omega | (simp only [List.length_set, ownL_len, partsTo_len, joinP_len]; omega)) | exact mixi_get (by first | exact joinP_len | (simp only [ownL_len, List.length_replicate])) (by first | omega | (simp only [ownL_len, partsTo_len, joinP_len, List.length_replicate]; omega)) | (simp; done)) (by decide) ?_)
          refine kops_nil ?_
          refine kn_block ?_
          refine kn_then ?_
          refine kwp_region ?_
          refine kops_d rfl rfl (opv_move rfl rfl) ?_
          refine kops_d rfl rfl (by first | exact opv_add rfl rfl rfl ⟨by omega, by omega⟩ | exact opv_ari rfl rfl rfl rfl) ?_
          refine kops_d rfl rfl (opv_assign rfl rfl) ?_
          refine kops_nil ?_
          refine kn_then ?_
          exact ⟨j + 1, ⟨by first | trivial | omega | (refine ⟨?_, ?_⟩ <;> omega) | (simp; done), by (repeat (first | exact Knows.nil _ | refine Knows.cons2 rfl (by first | rfl | (congr 1; omega) | exact mixi_set joinP_len (by rw [partsTo_len]; omega) (by rw [hjg, if_pos (by omega)]) | exact mixi_skip joinP_len (by rw [partsTo_len]; omega) (by rw [hjg, if_neg (by omega)])) ?_)), by (repeat (first | exact Sub.refl _ | exact Sub.nil _ | refine Sub.chunk (by repeat (first | exact Pick.here | apply Pick.there)) (by first | rfl | (congr 1; omega) | exact mixi_set joinP_len (by rw [partsTo_len]; omega) (by rw [hjg, if_pos (by omega)]) | exact mixi_skip joinP_len (by rw [partsTo_len]; omega) (by rw [hjg, if_neg (by omega)])) ?_))⟩, by omega⟩
        ·
          first | have hc8n := kb_nt hc8 | have hc8n := kb_nf hc8 | have hc8n := hc8
          first | have hc8m := of_decide_eq_true hc8n | have hc8m := of_decide_eq_false hc8n | have hc8m := kb_eq hc8n | have hc8m := kb_ne hc8n | have hc8m := kb_bne hc8n | have hc8m := kb_nbne hc8n | have hc8m := isIx_t hc8n | have hc8m := isIx_f hc8n | have hc8m := inR_t hc8n | have hc8m := inR_f hc8n | have hc8m := dec_tt hc8n | have hc8m := dec_ff hc8n | have hc8m := hc8n
          try simp only [List.get_eq_getElem] at hc8n
          try simp only [List.get_eq_getElem] at hc8m
          try have hum := hU m (by omega)
          try (have hX := hS.lg (gx U m).toNat (by omega); obtain ⟨hf0, hf1, ht0, ht1, -⟩ := hX)
          try have hjg := joinP_gx (L := partsTo st.toNat (uends (lends L) U) m) (a := (gx L (gx U m).toNat).f.toNat) (b := (gx L (gx U m).toNat).t.toNat) (i := j) (by rw [partsTo_len]; omega)
          refine kwp_skip ?_
          refine kn_block ?_
          refine kn_then ?_
          refine kwp_region ?_
          refine kops_d rfl rfl (opv_move rfl rfl) ?_
          refine kops_d rfl rfl (by first | exact opv_add rfl rfl rfl ⟨by omega, by omega⟩ | exact opv_ari rfl rfl rfl rfl) ?_
          refine kops_d rfl rfl (opv_assign rfl rfl) ?_
          refine kops_nil ?_
          refine kn_then ?_
          exact ⟨j + 1, ⟨by first | trivial | omega | (refine ⟨?_, ?_⟩ <;> omega) | (simp; done), by (repeat (first | exact Knows.nil _ | refine Knows.cons2 rfl (by first | rfl | (congr 1; omega) | exact mixi_set joinP_len (by rw [partsTo_len]; omega) (by rw [hjg, if_pos (by omega)]) | exact mixi_skip joinP_len (by rw [partsTo_len]; omega) (by rw [hjg, if_neg (by omega)])) ?_)), by (repeat (first | exact Sub.refl _ | exact Sub.nil _ | refine Sub.chunk (by repeat (first | exact Pick.here | apply Pick.there)) (by first | rfl | (congr 1; omega) | exact mixi_set joinP_len (by rw [partsTo_len]; omega) (by rw [hjg, if_pos (by omega)]) | exact mixi_skip joinP_len (by rw [partsTo_len]; omega) (by rw [hjg, if_neg (by omega)])) ?_))⟩, by omega⟩
      ·
        first | have hc6n := kb_nt hc6 | have hc6n := kb_nf hc6 | have hc6n := hc6
        first | have hc6m := of_decide_eq_true hc6n | have hc6m := of_decide_eq_false hc6n | have hc6m := kb_eq hc6n | have hc6m := kb_ne hc6n | have hc6m := kb_bne hc6n | have hc6m := kb_nbne hc6n | have hc6m := isIx_t hc6n | have hc6m := isIx_f hc6n | have hc6m := inR_t hc6n | have hc6m := inR_f hc6n | have hc6m := dec_tt hc6n | have hc6m := dec_ff hc6n | have hc6m := hc6n
        try simp only [List.get_eq_getElem] at hc6n
        try simp only [List.get_eq_getElem] at hc6m
        try have hum := hU m (by omega)
        try (have hX := hS.lg (gx U m).toNat (by omega); obtain ⟨hf0, hf1, ht0, ht1, -⟩ := hX)
        try have hjg := joinP_gx (L := partsTo st.toNat (uends (lends L) U) m) (a := (gx L (gx U m).toNat).f.toNat) (b := (gx L (gx U m).toNat).t.toNat) (i := j) (by rw [partsTo_len]; omega)
        refine kwp_exit ?_
        refine ke_then ?_
        refine ke_then ?_
        refine ke_block ?_
        refine kn_block ?_
        refine kn_then ?_
        refine kwp_region ?_
        refine kops_d rfl rfl (opv_move rfl rfl) ?_
        refine kops_d rfl rfl (by first | exact opv_add rfl rfl rfl ⟨by omega, by omega⟩ | exact opv_ari rfl rfl rfl rfl) ?_
        refine kops_d rfl rfl (opv_assign rfl rfl) ?_
        refine kops_nil ?_
        refine kn_then ?_
        exact ⟨m + 1, ⟨by first | trivial | omega | (refine ⟨?_, ?_⟩ <;> omega) | (simp; done), by (repeat (first | exact Knows.nil _ | refine Knows.cons2 rfl (by first | rfl | (congr 1; omega) | (rw [mix_end (by rw [joinP_len, partsTo_len]; omega) (by rw [partsTo_len]; omega)]; rfl)) ?_)), by (repeat (first | exact Sub.refl _ | exact Sub.nil _ | refine Sub.chunk (by repeat (first | exact Pick.here | apply Pick.there)) (by first | rfl | (congr 1; omega) | (rw [mix_end (by rw [joinP_len, partsTo_len]; omega) (by rw [partsTo_len]; omega)]; rfl)) ?_))⟩, by omega⟩
    ·
      first | have hc4n := kb_nt hc4 | have hc4n := kb_nf hc4 | have hc4n := hc4
      first | have hc4m := of_decide_eq_true hc4n | have hc4m := of_decide_eq_false hc4n | have hc4m := kb_eq hc4n | have hc4m := kb_ne hc4n | have hc4m := kb_bne hc4n | have hc4m := kb_nbne hc4n | have hc4m := isIx_t hc4n | have hc4m := isIx_f hc4n | have hc4m := inR_t hc4n | have hc4m := inR_f hc4n | have hc4m := dec_tt hc4n | have hc4m := dec_ff hc4n | have hc4m := hc4n
      try simp only [List.get_eq_getElem] at hc4n
      try simp only [List.get_eq_getElem] at hc4m
      try have hum := hU m (by omega)
      try (have hX := hS.lg (gx U m).toNat (by omega); obtain ⟨hf0, hf1, ht0, ht1, -⟩ := hX)
      try have hjg := joinP_gx (L := partsTo st.toNat (uends (lends L) U) m) (a := (gx L (gx U m).toNat).f.toNat) (b := (gx L (gx U m).toNat).t.toNat) (i := j) (by rw [partsTo_len]; omega)
      refine kwp_exit ?_
      refine ke_then ?_
      refine ke_then ?_
      refine ke_block ?_
      refine kn_then ?_
      refine kwp_seq ?_
      refine kwp_region ?_
      refine kops_d rfl rfl (opv_move rfl rfl) ?_
      refine kops_d rfl rfl (opv_assign rfl rfl) ?_
      refine kops_nil ?_
      refine kn_then ?_
      refine kwp_ret ?_
      refine kret1 [⟨.slice a1 st.toNat c1, 1, (partsTo st.toNat (uends (lends L) U) m).map encI⟩] rfl rfl ?_ (by (repeat (first | exact Sub.refl _ | exact Sub.nil _ | refine Sub.chunk (by repeat (first | exact Pick.here | apply Pick.there)) (by first | rfl | (simp; done) | (congr 1; omega)) ?_)))
      (obtain rfl : m = U.length := by omega); exact ⟨_, _, rfl, rfl⟩

end Go.Proofs.Ytfgialdcilldiaa
