/- The walks of some functions, each by its contract; conditions: those that each contract names. -/
import Derived.Test.YtfgialdcilldiaaWa
namespace Go.Proofs.Ytfgialdcilldiaa
open Go
set_option linter.unusedVariables false
set_option linter.unusedSimpArgs false


set_option maxRecDepth 20000 in
theorem c_laws_toAirway (v : Airway) :
    Triple Try.prog 81 [.agg #[.int .i64 v.f, .int .i64 v.t, .int .i64 v.w]] [] [] (fun r ch => r = .agg #[.int .i64 v.f, .int .i64 v.t, .int .i64 v.w] ∧ ch = []) := by
  refine triple_start 14 Try.func81 Try.ntmps81 rfl rfl (fun w0 => ?_)
  refine kwp_seq ?_
  refine kwp_region ?_
  refine kops_step rfl (opk_box' (e := [_, _, _]) 3 rfl rfl rfl rfl (by decide) (fun p1 => ?_))
  refine kops_step rfl (opk_alloc' (e := [_, _, _]) 3 rfl Try.zeroValue77 rfl rfl (by decide) (fun p2 => ?_))
  refine kops_nil ?_
  refine kn_then ?_
  refine kwp_seq ?_
  refine kwp_region ?_
  refine kops_step rfl (opk_alloc' (e := [_, _, _]) 3 rfl Try.zeroValue77 rfl rfl (by decide) (fun p3 => ?_))
  refine kops_nil ?_
  refine kn_then ?_
  refine kwp_seq ?_
  refine kwp_region ?_
  refine kops_d rfl rfl (opv_fab rfl rfl fa_103_0 (by repeat (first | exact List.Mem.head _ | apply List.Mem.tail))) ?_
  refine kops_d rfl rfl (opv_load rfl rfl Try.isAgg3 (by repeat (first | exact List.Mem.head _ | apply List.Mem.tail)) (by first | rfl | exact get_map (by omega) | exact fill_get (by omega) | (simp; done)) rfl) ?_
  refine kops_d rfl rfl (opv_fab rfl rfl fa_77_0 (by repeat (first | exact List.Mem.head _ | apply List.Mem.tail))) ?_
  refine kops_step rfl (opk_store rfl rfl rfl Try.sizeOf3 rfl (by repeat (first | exact Upd.here | apply Upd.there)) (by first | rfl | exact get_map (by omega) | exact fill_get (by omega) | (simp; done)) (by decide) ?_)
  refine kops_nil ?_
  refine kn_then ?_
  refine kwp_seq ?_
  refine kwp_region ?_
  refine kops_d rfl rfl (opv_fab rfl rfl fa_103_1 (by repeat (first | exact List.Mem.head _ | apply List.Mem.tail))) ?_
  refine kops_d rfl rfl (opv_load rfl rfl Try.isAgg3 (by repeat (first | exact List.Mem.head _ | apply List.Mem.tail)) (by first | rfl | exact get_map (by omega) | exact fill_get (by omega) | (simp; done)) rfl) ?_
  refine kops_d rfl rfl (opv_fab rfl rfl fa_77_1 (by repeat (first | exact List.Mem.head _ | apply List.Mem.tail))) ?_
  refine kops_step rfl (opk_store rfl rfl rfl Try.sizeOf3 rfl (by repeat (first | exact Upd.here | apply Upd.there)) (by first | rfl | exact get_map (by omega) | exact fill_get (by omega) | (simp; done)) (by decide) ?_)
  refine kops_nil ?_
  refine kn_then ?_
  refine kwp_seq ?_
  refine kwp_region ?_
  refine kops_d rfl rfl (opv_fab rfl rfl fa_103_2 (by repeat (first | exact List.Mem.head _ | apply List.Mem.tail))) ?_
  refine kops_d rfl rfl (opv_load rfl rfl Try.isAgg3 (by repeat (first | exact List.Mem.head _ | apply List.Mem.tail)) (by first | rfl | exact get_map (by omega) | exact fill_get (by omega) | (simp; done)) rfl) ?_
  refine kops_d rfl rfl (opv_fab rfl rfl fa_77_2 (by repeat (first | exact List.Mem.head _ | apply List.Mem.tail))) ?_
  refine kops_step rfl (opk_store rfl rfl rfl Try.sizeOf3 rfl (by repeat (first | exact Upd.here | apply Upd.there)) (by first | rfl | exact get_map (by omega) | exact fill_get (by omega) | (simp; done)) (by decide) ?_)
  refine kops_nil ?_
  refine kn_then ?_
  refine kwp_seq ?_
  refine kwp_region ?_
  refine kops_d rfl rfl (opv_load_box rfl rfl Try.isAgg77 Try.sizeOf77 (by repeat (first | exact List.Mem.head _ | apply List.Mem.tail))) ?_
  refine kops_step rfl (opk_store_box (e' := [_, _, _]) rfl rfl rfl Try.sizeOf77 rfl (by first | exact one_aw | exact one_int | exact one_sill | decide | (simp [Value.oneCell']; done) | (intro x hx; simp at hx; rcases hx with rfl | rfl | rfl | rfl | rfl <;> rfl)) rfl (by repeat (first | exact Upd.here | apply Upd.there)) ?_)
  refine kops_nil ?_
  refine kn_then ?_
  refine kwp_ret ?_
  refine kretc [] rfl rfl Try.isAgg77 Try.sizeOf77 (by repeat (first | exact List.Mem.head _ | apply List.Mem.tail)) ?_ (by (repeat (first | exact Sub.refl _ | exact Sub.nil _ | refine Sub.chunk (by repeat (first | exact Pick.here | apply Pick.there)) (by first | rfl | (simp; done) | (congr 1; omega)) ?_)))
  exact ⟨rfl, rfl⟩

set_option maxRecDepth 20000 in
theorem c_laws_toAirwayS (a : Option Addr) (n c : Nat) (l : List Airway) (hb : n ≤ 1048576) :
    Triple Try.prog 59 [.slice a n c] [⟨.slice a n c, 3, l.map encAirway⟩] [] (fun r ch => ∃ a' c', r = .slice a' n c' ∧ ch = [⟨.slice a' n c', 3, l.map encAirway⟩]) := by
  refine triple_start 23 Try.func59 Try.ntmps59 rfl rfl (fun w0 => ?_)
  refine kwp_len (List.Mem.head _) (fun hn => ?_)
  simp only [List.length_map] at hn
  subst hn
  refine kwp_seq ?_
  refine kwp_region ?_
  refine kops_d rfl rfl (opv_assign rfl rfl) ?_
  refine kops_nil ?_
  refine kn_then ?_
  refine kwp_seq ?_
  refine kwp_region ?_
  refine kops_d rfl rfl (opv_move rfl rfl) ?_
  refine kops_d rfl rfl (opv_len rfl rfl rfl Try.runUnderlying28) ?_
  refine kops_step rfl (opk_make (zs := [(.int .i64 0), (.int .i64 0), (.int .i64 0)]) rfl rfl rfl Try.underlying33 Try.type77 rfl rfl rfl rfl (by decide) (by omega) (show ((24 : Nat) : Int) * _ ≤ 281474976710656 by omega) (by omega) (fun a7 => ?_))
  refine kops_d rfl rfl (opv_assign rfl rfl) ?_
  refine kops_nil ?_
  refine kn_then ?_
  refine kwp_seq ?_
  refine kwp_seq ?_
  refine kwp_region ?_
  refine kops_d rfl rfl (opv_assign rfl rfl) ?_
  refine kops_nil ?_
  refine kn_then ?_
  refine kwp_block ?_
  refine kwp_loop1 (inv := [(0, _), (2, _), (3, _)]) (ic := [])
    (fun (k : Nat) => [(4, .int .i64 k)])
    (fun (k : Nat) => [⟨.slice (some a7) l.length l.length, 3, fillL encAirway [.int .i64 0, .int .i64 0, .int .i64 0] l k⟩])
    (fun (k : Nat) => k ≤ l.length)
    (fun (k : Nat) => l.length - k)
    ⟨0, ⟨by first | trivial | omega | (refine ⟨?_, ?_⟩ <;> omega) | (simp; done), by (repeat (first | exact Knows.nil _ | refine Knows.cons2 rfl (by first | rfl | exact fill_zero _ _ _) ?_)), by (repeat (first | exact Sub.refl _ | exact Sub.nil _ | refine Sub.chunk (by repeat (first | exact Pick.here | apply Pick.there)) (by first | rfl | exact fill_zero _ _ _) ?_))⟩⟩ (fun k hp => ?_)
  refine kwp_seq ?_
  refine kwp_seq ?_
  refine kwp_region ?_
  refine kops_d rfl rfl (opv_move rfl rfl) ?_
  refine kops_d rfl rfl (opv_move rfl rfl) ?_
  refine kops_d rfl rfl (opv_len rfl rfl rfl Try.runUnderlying28) ?_
  refine kops_d rfl rfl (opv_cmp rfl rfl rfl rfl) ?_
  refine kops_nil ?_
  refine kn_then ?_
  refine kwp_cond rfl (fun hc2 => ?_) (fun hc2 => ?_)
  ·
    first | have hc2n := kb_nt hc2 | have hc2n := kb_nf hc2 | have hc2n := hc2
    first | have hc2m := of_decide_eq_true hc2n | have hc2m := of_decide_eq_false hc2n | have hc2m := kb_eq hc2n | have hc2m := kb_ne hc2n | have hc2m := kb_bne hc2n | have hc2m := kb_nbne hc2n | have hc2m := isIx_t hc2n | have hc2m := isIx_f hc2n | have hc2m := inR_t hc2n | have hc2m := inR_f hc2n | have hc2m := dec_tt hc2n | have hc2m := dec_ff hc2n | have hc2m := hc2n
    try simp only [List.get_eq_getElem] at hc2n
    try simp only [List.get_eq_getElem] at hc2m
    refine kwp_skip ?_
    refine kn_then ?_
    refine kwp_seq ?_
    refine kwp_block ?_
    refine kwp_region ?_
    refine kops_d rfl rfl (opv_move rfl rfl) ?_
    refine kops_d rfl rfl (opv_move rfl rfl) ?_
    refine kops_d rfl rfl (opv_move rfl rfl) ?_
    refine kops_d rfl rfl (opv_move rfl rfl) ?_
    refine kops_d rfl rfl (opv_ia rfl rfl rfl Try.runUnderlying28 Try.sizeOf103 (by repeat (first | exact List.Mem.head _ | apply List.Mem.tail)) (by first | rfl | exact (Int.toNat_of_nonneg (by omega)).symm) (by first | omega | (simp only [List.length_map]; omega) | (rw [fill_len (by omega)]; omega) | (simp; omega) | (simp; done))) ?_
    refine kops_d rfl rfl (opv_load_agg rfl rfl Try.isAgg103 Try.sizeOf103 (by repeat (first | exact List.Mem.head _ | apply List.Mem.tail)) (by first | rfl | exact get_map (by omega) | exact fill_get (by omega) | (simp; done))) ?_
    refine kops_step rfl (opk_call rfl Try.call81 rfl (c_laws_toAirway ⟨_, _, _⟩) ((perm_nil _)) ((Views.nil _)) ?_)
    rintro _ _ ⟨rfl, rfl⟩
    refine kops_d rfl rfl (opv_ia rfl rfl rfl Try.runUnderlying33 Try.sizeOf77 (by repeat (first | exact List.Mem.head _ | apply List.Mem.tail)) (by first | rfl | exact (Int.toNat_of_nonneg (by omega)).symm) (by first | omega | (simp only [List.length_map]; omega) | (rw [fill_len (by omega)]; omega) | (simp; omega) | (simp; done))) ?_
    refine kops_step rfl (opk_store_agg (e' := [_, _, _]) rfl rfl rfl Try.sizeOf77 rfl (by first | exact one_aw | exact one_int | exact one_sill | decide | (simp [Value.oneCell']; done) | (intro x hx; simp at hx; rcases hx with rfl | rfl | rfl | rfl | rfl <;> rfl)) rfl (by repeat (first | exact Upd.here | apply Upd.there)) (by first | rfl | exact get_map (by omega) | exact fill_get (by omega) | (simp; done)) ?_)
    refine kops_nil ?_
    refine kn_block ?_
    refine kn_then ?_
    refine kwp_region ?_
    refine kops_d rfl rfl (opv_move rfl rfl) ?_
    refine kops_d rfl rfl (by first | exact opv_add rfl rfl rfl ⟨by omega, by omega⟩ | exact opv_ari rfl rfl rfl rfl) ?_
    refine kops_d rfl rfl (opv_assign rfl rfl) ?_
    refine kops_nil ?_
    refine kn_then ?_
    exact ⟨k + 1, ⟨by first | trivial | omega | (refine ⟨?_, ?_⟩ <;> omega) | (simp; done), by (repeat (first | exact Knows.nil _ | refine Knows.cons2 rfl (by first | rfl | exact fill_set (by omega)) ?_)), by (repeat (first | exact Sub.refl _ | exact Sub.nil _ | refine Sub.chunk (by repeat (first | exact Pick.here | apply Pick.there)) (by first | rfl | exact fill_set (by omega)) ?_))⟩, by omega⟩
  ·
    first | have hc2n := kb_nt hc2 | have hc2n := kb_nf hc2 | have hc2n := hc2
    first | have hc2m := of_decide_eq_true hc2n | have hc2m := of_decide_eq_false hc2n | have hc2m := kb_eq hc2n | have hc2m := kb_ne hc2n | have hc2m := kb_bne hc2n | have hc2m := kb_nbne hc2n | have hc2m := isIx_t hc2n | have hc2m := isIx_f hc2n | have hc2m := inR_t hc2n | have hc2m := inR_f hc2n | have hc2m := dec_tt hc2n | have hc2m := dec_ff hc2n | have hc2m := hc2n
    try simp only [List.get_eq_getElem] at hc2n
    try simp only [List.get_eq_getElem] at hc2m
    refine kwp_exit ?_
    refine ke_then ?_
    refine ke_then ?_
    refine ke_block ?_
    refine kn_then ?_
    refine kwp_seq ?_
    refine kwp_region ?_
    refine kops_d rfl rfl (opv_move rfl rfl) ?_
    refine kops_d rfl rfl (opv_assign rfl rfl) ?_
    refine kops_nil ?_
    refine kn_then ?_
    refine kwp_ret ?_
    refine kret1 [⟨.slice (some a7) l.length l.length, 3, l.map encAirway⟩] rfl rfl ?_ (by (refine Sub.chunk (by repeat (first | exact Pick.here | apply Pick.there)) (by exact fill_end (by omega)) (Sub.nil _)))
    exact ⟨_, _, rfl, rfl⟩

set_option maxRecDepth 20000 in
theorem c_laws_szAirwayS (a : Option Addr) (n c : Nat) (left : Int) (hb : 0 ≤ left ∧ left ≤ 1048576) (hn : n ≤ 9223372036854775807) :
    Triple Try.prog 58 [.slice a n c, .int .i64 left] [] [] (fun r ch => ∃ x, r = .int .i64 x ∧ -1 ≤ x ∧ x ≤ left ∧ (x < 0 ∨ x = left - n) ∧ ch = []) := by
  refine triple_start 12 Try.func58 Try.ntmps58 rfl rfl (fun w0 => ?_)
  refine kwp_seq ?_
  refine kwp_region ?_
  refine kops_d rfl rfl (opv_assign rfl rfl) ?_
  refine kops_nil ?_
  refine kn_then ?_
  refine kwp_seq ?_
  refine kwp_region ?_
  refine kops_d rfl rfl (opv_move rfl rfl) ?_
  refine kops_d rfl rfl (opv_move rfl rfl) ?_
  refine kops_d rfl rfl (opv_len rfl rfl rfl Try.runUnderlying28) ?_
  refine kops_d rfl rfl (by first | exact opv_sub rfl rfl rfl ⟨by omega, by omega⟩ | exact opv_ari rfl rfl rfl rfl) ?_
  refine kops_d rfl rfl (opv_assign rfl rfl) ?_
  refine kops_nil ?_
  refine kn_then ?_
  refine kwp_seq ?_
  refine kwp_seq ?_
  refine kwp_region ?_
  refine kops_d rfl rfl (opv_move rfl rfl) ?_
  refine kops_d rfl rfl (opv_cmp rfl rfl rfl rfl) ?_
  refine kops_nil ?_
  refine kn_then ?_
  refine kwp_cond rfl (fun hc2 => ?_) (fun hc2 => ?_)
  ·
    first | have hc2n := kb_nt hc2 | have hc2n := kb_nf hc2 | have hc2n := hc2
    first | have hc2m := of_decide_eq_true hc2n | have hc2m := of_decide_eq_false hc2n | have hc2m := kb_eq hc2n | have hc2m := kb_ne hc2n | have hc2m := kb_bne hc2n | have hc2m := kb_nbne hc2n | have hc2m := isIx_t hc2n | have hc2m := isIx_f hc2n | have hc2m := inR_t hc2n | have hc2m := inR_f hc2n | have hc2m := dec_tt hc2n | have hc2m := dec_ff hc2n | have hc2m := hc2n
    try simp only [List.get_eq_getElem] at hc2n
    try simp only [List.get_eq_getElem] at hc2m
    refine kwp_seq ?_
    refine kwp_region ?_
    refine kops_d rfl rfl (opv_assign rfl rfl) ?_
    refine kops_nil ?_
    refine kn_then ?_
    refine kwp_ret ?_
    refine kr_then ?_
    refine kret1 [] rfl rfl ?_ (by (repeat (first | exact Sub.refl _ | exact Sub.nil _ | refine Sub.chunk (by repeat (first | exact Pick.here | apply Pick.there)) (by first | rfl | (simp; done) | (congr 1; omega)) ?_)))
    exact ⟨_, rfl, by omega, by omega, by omega, rfl⟩
  ·
    first | have hc2n := kb_nt hc2 | have hc2n := kb_nf hc2 | have hc2n := hc2
    first | have hc2m := of_decide_eq_true hc2n | have hc2m := of_decide_eq_false hc2n | have hc2m := kb_eq hc2n | have hc2m := kb_ne hc2n | have hc2m := kb_bne hc2n | have hc2m := kb_nbne hc2n | have hc2m := isIx_t hc2n | have hc2m := isIx_f hc2n | have hc2m := inR_t hc2n | have hc2m := inR_f hc2n | have hc2m := dec_tt hc2n | have hc2m := dec_ff hc2n | have hc2m := hc2n
    try simp only [List.get_eq_getElem] at hc2n
    try simp only [List.get_eq_getElem] at hc2m
    refine kwp_skip ?_
    refine kn_then ?_
    refine kwp_seq ?_
    refine kwp_region ?_
    refine kops_d rfl rfl (opv_move rfl rfl) ?_
    refine kops_d rfl rfl (opv_assign rfl rfl) ?_
    refine kops_nil ?_
    refine kn_then ?_
    refine kwp_ret ?_
    refine kret1 [] rfl rfl ?_ (by (repeat (first | exact Sub.refl _ | exact Sub.nil _ | refine Sub.chunk (by repeat (first | exact Pick.here | apply Pick.there)) (by first | rfl | (simp; done) | (congr 1; omega)) ?_)))
    exact ⟨_, rfl, by omega, by omega, by omega, rfl⟩

set_option maxRecDepth 20000 in
theorem c_laws_szMine (p : Int) (a : Option Addr) (n c : Nat) (left : Int) (hb : 0 ≤ left ∧ left ≤ 1048576) (hn : n ≤ 9223372036854775807) :
    Triple Try.prog 18 [.agg #[.int .i64 p, .slice a n c], .int .i64 left] [] [] (fun r ch => ∃ x, r = .int .i64 x ∧ -1 ≤ x ∧ x ≤ left ∧ (x < 0 ∨ x = left - n) ∧ ch = []) := by
  refine triple_start 12 Try.func18 Try.ntmps18 rfl rfl (fun w0 => ?_)
  refine kwp_seq ?_
  refine kwp_region ?_
  refine kops_step rfl (opk_box' (e := [_, _]) 2 rfl rfl rfl rfl (by decide) (fun p2 => ?_))
  refine kops_d rfl rfl (opv_assign rfl rfl) ?_
  refine kops_nil ?_
  refine kn_then ?_
  refine kwp_seq ?_
  refine kwp_region ?_
  refine kops_d rfl rfl (opv_fab rfl rfl fa_30_1 (by repeat (first | exact List.Mem.head _ | apply List.Mem.tail))) ?_
  refine kops_d rfl rfl (opv_load rfl rfl Try.isAgg28 (by repeat (first | exact List.Mem.head _ | apply List.Mem.tail)) (by first | rfl | exact get_map (by omega) | exact fill_get (by omega) | (simp; done)) rfl) ?_
  refine kops_d rfl rfl (opv_move rfl rfl) ?_
  refine kops_step rfl (opk_call rfl Try.call58 rfl (c_laws_szAirwayS _ _ _ _ ⟨by omega, by omega⟩ (by omega)) ((perm_nil _)) ((Views.nil _)) ?_)
  rintro _ _ ⟨x8, rfl, hl8, hg8, hx8, rfl⟩
  refine kops_d rfl rfl (opv_assign rfl rfl) ?_
  refine kops_nil ?_
  refine kn_then ?_
  refine kwp_seq ?_
  refine kwp_seq ?_
  refine kwp_region ?_
  refine kops_d rfl rfl (opv_move rfl rfl) ?_
  refine kops_d rfl rfl (opv_cmp rfl rfl rfl rfl) ?_
  refine kops_nil ?_
  refine kn_then ?_
  refine kwp_cond rfl (fun hc2 => ?_) (fun hc2 => ?_)
  ·
    first | have hc2n := kb_nt hc2 | have hc2n := kb_nf hc2 | have hc2n := hc2
    first | have hc2m := of_decide_eq_true hc2n | have hc2m := of_decide_eq_false hc2n | have hc2m := kb_eq hc2n | have hc2m := kb_ne hc2n | have hc2m := kb_bne hc2n | have hc2m := kb_nbne hc2n | have hc2m := isIx_t hc2n | have hc2m := isIx_f hc2n | have hc2m := inR_t hc2n | have hc2m := inR_f hc2n | have hc2m := dec_tt hc2n | have hc2m := dec_ff hc2n | have hc2m := hc2n
    try simp only [List.get_eq_getElem] at hc2n
    try simp only [List.get_eq_getElem] at hc2m
    refine kwp_seq ?_
    refine kwp_region ?_
    refine kops_d rfl rfl (opv_assign rfl rfl) ?_
    refine kops_nil ?_
    refine kn_then ?_
    refine kwp_ret ?_
    refine kr_then ?_
    refine kret1 [] rfl rfl ?_ (by (repeat (first | exact Sub.refl _ | exact Sub.nil _ | refine Sub.chunk (by repeat (first | exact Pick.here | apply Pick.there)) (by first | rfl | (simp; done) | (congr 1; omega)) ?_)))
    exact ⟨_, rfl, by omega, by omega, by omega, rfl⟩
  ·
    first | have hc2n := kb_nt hc2 | have hc2n := kb_nf hc2 | have hc2n := hc2
    first | have hc2m := of_decide_eq_true hc2n | have hc2m := of_decide_eq_false hc2n | have hc2m := kb_eq hc2n | have hc2m := kb_ne hc2n | have hc2m := kb_bne hc2n | have hc2m := kb_nbne hc2n | have hc2m := isIx_t hc2n | have hc2m := isIx_f hc2n | have hc2m := inR_t hc2n | have hc2m := inR_f hc2n | have hc2m := dec_tt hc2n | have hc2m := dec_ff hc2n | have hc2m := hc2n
    try simp only [List.get_eq_getElem] at hc2n
    try simp only [List.get_eq_getElem] at hc2m
    refine kwp_skip ?_
    refine kn_then ?_
    refine kwp_seq ?_
    refine kwp_region ?_
    refine kops_d rfl rfl (opv_move rfl rfl) ?_
    refine kops_d rfl rfl (opv_assign rfl rfl) ?_
    refine kops_nil ?_
    refine kn_then ?_
    refine kwp_ret ?_
    refine kret1 [] rfl rfl ?_ (by (repeat (first | exact Sub.refl _ | exact Sub.nil _ | refine Sub.chunk (by repeat (first | exact Pick.here | apply Pick.there)) (by first | rfl | (simp; done) | (congr 1; omega)) ?_)))
    exact ⟨_, rfl, by omega, by omega, by omega, rfl⟩

set_option maxRecDepth 20000 in
theorem c_laws_toMine (p : Int) (a : Option Addr) (n c : Nat) (l : List Airway) (hb : n ≤ 1048576) :
    Triple Try.prog 20 [.agg #[.int .i64 p, .slice a n c]] [⟨.slice a n c, 3, l.map encAirway⟩] [] (fun r ch => ∃ a' c', r = .agg #[.int .i64 p, .slice a' n c'] ∧ ch = [⟨.slice a' n c', 3, l.map encAirway⟩]) := by
  refine triple_start 12 Try.func20 Try.ntmps20 rfl rfl (fun w0 => ?_)
  refine kwp_seq ?_
  refine kwp_region ?_
  refine kops_step rfl (opk_box' (e := [_, _]) 2 rfl rfl rfl rfl (by decide) (fun p1 => ?_))
  refine kops_step rfl (opk_alloc' (e := [_, _]) 2 rfl Try.zeroValue35 rfl rfl (by decide) (fun p2 => ?_))
  refine kops_nil ?_
  refine kn_then ?_
  refine kwp_seq ?_
  refine kwp_region ?_
  refine kops_step rfl (opk_alloc' (e := [_, _]) 2 rfl Try.zeroValue35 rfl rfl (by decide) (fun p3 => ?_))
  refine kops_nil ?_
  refine kn_then ?_
  refine kwp_seq ?_
  refine kwp_region ?_
  refine kops_d rfl rfl (opv_fab rfl rfl fa_30_0 (by repeat (first | exact List.Mem.head _ | apply List.Mem.tail))) ?_
  refine kops_d rfl rfl (opv_load rfl rfl Try.isAgg3 (by repeat (first | exact List.Mem.head _ | apply List.Mem.tail)) (by first | rfl | exact get_map (by omega) | exact fill_get (by omega) | (simp; done)) rfl) ?_
  refine kops_d rfl rfl (opv_fab rfl rfl fa_35_0 (by repeat (first | exact List.Mem.head _ | apply List.Mem.tail))) ?_
  refine kops_step rfl (opk_store rfl rfl rfl Try.sizeOf3 rfl (by repeat (first | exact Upd.here | apply Upd.there)) (by first | rfl | exact get_map (by omega) | exact fill_get (by omega) | (simp; done)) (by decide) ?_)
  refine kops_nil ?_
  refine kn_then ?_
  refine kwp_seq ?_
  refine kwp_region ?_
  refine kops_d rfl rfl (opv_fab rfl rfl fa_30_1 (by repeat (first | exact List.Mem.head _ | apply List.Mem.tail))) ?_
  refine kops_d rfl rfl (opv_load rfl rfl Try.isAgg28 (by repeat (first | exact List.Mem.head _ | apply List.Mem.tail)) (by first | rfl | exact get_map (by omega) | exact fill_get (by omega) | (simp; done)) rfl) ?_
  refine kops_step rfl (opk_call rfl Try.call59 rfl (c_laws_toAirwayS _ _ _ l hb) ((perm_nil _)) (Views.cons (by repeat (first | exact List.Mem.head _ | apply List.Mem.tail)) (View.refl _) ((Views.nil _))) ?_)
  rintro _ _ ⟨a9, c9, rfl, rfl⟩
  refine kops_d rfl rfl (opv_fab rfl rfl fa_35_1 (by repeat (first | exact List.Mem.head _ | apply List.Mem.tail))) ?_
  refine kops_step rfl (opk_store rfl rfl rfl Try.sizeOf33 rfl (by repeat (first | exact Upd.here | apply Upd.there)) (by first | rfl | exact get_map (by omega) | exact fill_get (by omega) | (simp; done)) (by decide) ?_)
  refine kops_nil ?_
  refine kn_then ?_
  refine kwp_seq ?_
  refine kwp_region ?_
  refine kops_d rfl rfl (opv_load_box rfl rfl Try.isAgg35 Try.sizeOf35 (by repeat (first | exact List.Mem.head _ | apply List.Mem.tail))) ?_
  refine kops_step rfl (opk_store_box (e' := [_, _]) rfl rfl rfl Try.sizeOf35 rfl (by first | exact one_aw | exact one_int | exact one_sill | decide | (simp [Value.oneCell']; done) | (intro x hx; simp at hx; rcases hx with rfl | rfl | rfl | rfl | rfl <;> rfl)) rfl (by repeat (first | exact Upd.here | apply Upd.there)) ?_)
  refine kops_nil ?_
  refine kn_then ?_
  refine kwp_ret ?_
  refine kretc [⟨.slice _ n _, 3, l.map encAirway⟩] rfl rfl Try.isAgg35 Try.sizeOf35 (by repeat (first | exact List.Mem.head _ | apply List.Mem.tail)) ?_ (by (repeat (first | exact Sub.refl _ | exact Sub.nil _ | refine Sub.chunk (by repeat (first | exact Pick.here | apply Pick.there)) (by first | rfl | (simp; done) | (congr 1; omega)) ?_)))
  exact ⟨_, _, rfl, rfl⟩

set_option maxRecDepth 20000 in
theorem c_laws_eqAirway (x y : Airway) :
    Triple Try.prog 82 [.agg #[.int .i64 x.f, .int .i64 x.t, .int .i64 x.w], .agg #[.int .i64 y.f, .int .i64 y.t, .int .i64 y.w]] [] [] (fun r ch => r = .bool (decide (x = y)) ∧ ch = []) := by
  refine triple_start 20 Try.func82 Try.ntmps82 rfl rfl (fun w0 => ?_)
  refine kwp_seq ?_
  refine kwp_region ?_
  refine kops_step rfl (opk_box' (e := [_, _, _]) 3 rfl rfl rfl rfl (by decide) (fun p2 => ?_))
  refine kops_step rfl (opk_box' (e := [_, _, _]) 3 rfl rfl rfl rfl (by decide) (fun p3 => ?_))
  refine kops_d rfl rfl (opv_assign rfl rfl) ?_
  refine kops_nil ?_
  refine kn_then ?_
  refine kwp_seq ?_
  refine kwp_seq ?_
  refine kwp_region ?_
  refine kops_d rfl rfl (opv_fab rfl rfl fa_77_0 (by repeat (first | exact List.Mem.head _ | apply List.Mem.tail))) ?_
  refine kops_d rfl rfl (opv_load rfl rfl Try.isAgg3 (by repeat (first | exact List.Mem.head _ | apply List.Mem.tail)) (by first | rfl | exact get_map (by omega) | exact fill_get (by omega) | (simp; done)) rfl) ?_
  refine kops_d rfl rfl (opv_fab rfl rfl fa_77_0 (by repeat (first | exact List.Mem.head _ | apply List.Mem.tail))) ?_
  refine kops_d rfl rfl (opv_load rfl rfl Try.isAgg3 (by repeat (first | exact List.Mem.head _ | apply List.Mem.tail)) (by first | rfl | exact get_map (by omega) | exact fill_get (by omega) | (simp; done)) rfl) ?_
  refine kops_d rfl rfl (opv_cmp rfl rfl rfl rfl) ?_
  refine kops_nil ?_
  refine kn_then ?_
  refine kwp_cond rfl (fun hc2 => ?_) (fun hc2 => ?_)
  ·
    first | have hc2n := kb_nt hc2 | have hc2n := kb_nf hc2 | have hc2n := hc2
    first | have hc2m := of_decide_eq_true hc2n | have hc2m := of_decide_eq_false hc2n | have hc2m := kb_eq hc2n | have hc2m := kb_ne hc2n | have hc2m := kb_bne hc2n | have hc2m := kb_nbne hc2n | have hc2m := isIx_t hc2n | have hc2m := isIx_f hc2n | have hc2m := inR_t hc2n | have hc2m := inR_f hc2n | have hc2m := dec_tt hc2n | have hc2m := dec_ff hc2n | have hc2m := hc2n
    try simp only [List.get_eq_getElem] at hc2n
    try simp only [List.get_eq_getElem] at hc2m
    refine kwp_seq ?_
    refine kwp_region ?_
    refine kops_d rfl rfl (opv_assign rfl rfl) ?_
    refine kops_nil ?_
    refine kn_then ?_
    refine kwp_ret ?_
    refine kr_then ?_
    refine kret1 [] rfl rfl ?_ (by (repeat (first | exact Sub.refl _ | exact Sub.nil _ | refine Sub.chunk (by repeat (first | exact Pick.here | apply Pick.there)) (by first | rfl | (simp; done) | (congr 1; omega)) ?_)))
    exact ⟨by obtain ⟨x1, x2, x3⟩ := x; obtain ⟨y1, y2, y3⟩ := y; simp_all, rfl⟩
  ·
    first | have hc2n := kb_nt hc2 | have hc2n := kb_nf hc2 | have hc2n := hc2
    first | have hc2m := of_decide_eq_true hc2n | have hc2m := of_decide_eq_false hc2n | have hc2m := kb_eq hc2n | have hc2m := kb_ne hc2n | have hc2m := kb_bne hc2n | have hc2m := kb_nbne hc2n | have hc2m := isIx_t hc2n | have hc2m := isIx_f hc2n | have hc2m := inR_t hc2n | have hc2m := inR_f hc2n | have hc2m := dec_tt hc2n | have hc2m := dec_ff hc2n | have hc2m := hc2n
    try simp only [List.get_eq_getElem] at hc2n
    try simp only [List.get_eq_getElem] at hc2m
    refine kwp_skip ?_
    refine kn_then ?_
    refine kwp_seq ?_
    refine kwp_seq ?_
    refine kwp_region ?_
    refine kops_d rfl rfl (opv_fab rfl rfl fa_77_1 (by repeat (first | exact List.Mem.head _ | apply List.Mem.tail))) ?_
    refine kops_d rfl rfl (opv_load rfl rfl Try.isAgg3 (by repeat (first | exact List.Mem.head _ | apply List.Mem.tail)) (by first | rfl | exact get_map (by omega) | exact fill_get (by omega) | (simp; done)) rfl) ?_
    refine kops_d rfl rfl (opv_fab rfl rfl fa_77_1 (by repeat (first | exact List.Mem.head _ | apply List.Mem.tail))) ?_
    refine kops_d rfl rfl (opv_load rfl rfl Try.isAgg3 (by repeat (first | exact List.Mem.head _ | apply List.Mem.tail)) (by first | rfl | exact get_map (by omega) | exact fill_get (by omega) | (simp; done)) rfl) ?_
    refine kops_d rfl rfl (opv_cmp rfl rfl rfl rfl) ?_
    refine kops_nil ?_
    refine kn_then ?_
    refine kwp_cond rfl (fun hc4 => ?_) (fun hc4 => ?_)
    ·
      first | have hc4n := kb_nt hc4 | have hc4n := kb_nf hc4 | have hc4n := hc4
      first | have hc4m := of_decide_eq_true hc4n | have hc4m := of_decide_eq_false hc4n | have hc4m := kb_eq hc4n | have hc4m := kb_ne hc4n | have hc4m := kb_bne hc4n | have hc4m := kb_nbne hc4n | have hc4m := isIx_t hc4n | have hc4m := isIx_f hc4n | have hc4m := inR_t hc4n | have hc4m := inR_f hc4n | have hc4m := dec_tt hc4n | have hc4m := dec_ff hc4n | have hc4m := hc4n
      try simp only [List.get_eq_getElem] at hc4n
      try simp only [List.get_eq_getElem] at hc4m
      refine kwp_seq ?_
      refine kwp_region ?_
      refine kops_d rfl rfl (opv_assign rfl rfl) ?_
      refine kops_nil ?_
      refine kn_then ?_
      refine kwp_ret ?_
      refine kr_then ?_
      refine kret1 [] rfl rfl ?_ (by (repeat (first | exact Sub.refl _ | exact Sub.nil _ | refine Sub.chunk (by repeat (first | exact Pick.here | apply Pick.there)) (by first | rfl | (simp; done) | (congr 1; omega)) ?_)))
      exact ⟨by obtain ⟨x1, x2, x3⟩ := x; obtain ⟨y1, y2, y3⟩ := y; simp_all, rfl⟩
    ·
      first | have hc4n := kb_nt hc4 | have hc4n := kb_nf hc4 | have hc4n := hc4
      first | have hc4m := of_decide_eq_true hc4n | have hc4m := of_decide_eq_false hc4n | have hc4m := kb_eq hc4n | have hc4m := kb_ne hc4n | have hc4m := kb_bne hc4n | have hc4m := kb_nbne hc4n | have hc4m := isIx_t hc4n | have hc4m := isIx_f hc4n | have hc4m := inR_t hc4n | have hc4m := inR_f hc4n | have hc4m := dec_tt hc4n | have hc4m := dec_ff hc4n | have hc4m := hc4n
      try simp only [List.get_eq_getElem] at hc4n
      try simp only [List.get_eq_getElem] at hc4m
      refine kwp_skip ?_
      refine kn_then ?_
      refine kwp_seq ?_
      refine kwp_seq ?_
      refine kwp_region ?_
      refine kops_d rfl rfl (opv_fab rfl rfl fa_77_2 (by repeat (first | exact List.Mem.head _ | apply List.Mem.tail))) ?_
      refine kops_d rfl rfl (opv_load rfl rfl Try.isAgg3 (by repeat (first | exact List.Mem.head _ | apply List.Mem.tail)) (by first | rfl | exact get_map (by omega) | exact fill_get (by omega) | (simp; done)) rfl) ?_
      refine kops_d rfl rfl (opv_fab rfl rfl fa_77_2 (by repeat (first | exact List.Mem.head _ | apply List.Mem.tail))) ?_
      refine kops_d rfl rfl (opv_load rfl rfl Try.isAgg3 (by repeat (first | exact List.Mem.head _ | apply List.Mem.tail)) (by first | rfl | exact get_map (by omega) | exact fill_get (by omega) | (simp; done)) rfl) ?_
      refine kops_d rfl rfl (opv_cmp rfl rfl rfl rfl) ?_
      refine kops_nil ?_
      refine kn_then ?_
      refine kwp_cond rfl (fun hc6 => ?_) (fun hc6 => ?_)
      ·
        first | have hc6n := kb_nt hc6 | have hc6n := kb_nf hc6 | have hc6n := hc6
        first | have hc6m := of_decide_eq_true hc6n | have hc6m := of_decide_eq_false hc6n | have hc6m := kb_eq hc6n | have hc6m := kb_ne hc6n | have hc6m := kb_bne hc6n | have hc6m := kb_nbne hc6n | have hc6m := isIx_t hc6n | have hc6m := isIx_f hc6n | have hc6m := inR_t hc6n | have hc6m := inR_f hc6n | have hc6m := dec_tt hc6n | have hc6m := dec_ff hc6n | have hc6m := hc6n
        try simp only [List.get_eq_getElem] at hc6n
        try simp only [List.get_eq_getElem] at hc6m
        refine kwp_seq ?_
        refine kwp_region ?_
        refine kops_d rfl rfl (opv_assign rfl rfl) ?_
        refine kops_nil ?_
        refine kn_then ?_
        refine kwp_ret ?_
        refine kr_then ?_
        refine kret1 [] rfl rfl ?_ (by (repeat (first | exact Sub.refl _ | exact Sub.nil _ | refine Sub.chunk (by repeat (first | exact Pick.here | apply Pick.there)) (by first | rfl | (simp; done) | (congr 1; omega)) ?_)))
        exact ⟨by obtain ⟨x1, x2, x3⟩ := x; obtain ⟨y1, y2, y3⟩ := y; simp_all, rfl⟩
      ·
        first | have hc6n := kb_nt hc6 | have hc6n := kb_nf hc6 | have hc6n := hc6
        first | have hc6m := of_decide_eq_true hc6n | have hc6m := of_decide_eq_false hc6n | have hc6m := kb_eq hc6n | have hc6m := kb_ne hc6n | have hc6m := kb_bne hc6n | have hc6m := kb_nbne hc6n | have hc6m := isIx_t hc6n | have hc6m := isIx_f hc6n | have hc6m := inR_t hc6n | have hc6m := inR_f hc6n | have hc6m := dec_tt hc6n | have hc6m := dec_ff hc6n | have hc6m := hc6n
        try simp only [List.get_eq_getElem] at hc6n
        try simp only [List.get_eq_getElem] at hc6m
        refine kwp_skip ?_
        refine kn_then ?_
        refine kwp_seq ?_
        refine kwp_region ?_
        refine kops_d rfl rfl (opv_assign rfl rfl) ?_
        refine kops_nil ?_
        refine kn_then ?_
        refine kwp_ret ?_
        refine kret1 [] rfl rfl ?_ (by (repeat (first | exact Sub.refl _ | exact Sub.nil _ | refine Sub.chunk (by repeat (first | exact Pick.here | apply Pick.there)) (by first | rfl | (simp; done) | (congr 1; omega)) ?_)))
        exact ⟨by obtain ⟨x1, x2, x3⟩ := x; obtain ⟨y1, y2, y3⟩ := y; simp_all, rfl⟩

set_option maxRecDepth 20000 in
theorem c_laws_eqAirwayS (a1 a2 : Option Addr) (n1 c1 n2 c2 : Nat) (l m : List Airway) (hb : n1 ≤ 9223372036854775807 ∧ n2 ≤ 9223372036854775807) :
    Triple Try.prog 61 [.slice a1 n1 c1, .slice a2 n2 c2] [⟨.slice a1 n1 c1, 3, l.map encAirway⟩, ⟨.slice a2 n2 c2, 3, m.map encAirway⟩] [] (fun r ch => r = .bool (decide (l = m)) ∧ ch = []) := by
  refine triple_start 27 Try.func61 Try.ntmps61 rfl rfl (fun w0 => ?_)
  refine kwp_len (List.Mem.head _) (fun hn1 => ?_)
  refine kwp_len (List.Mem.tail _ (List.Mem.head _)) (fun hn2 => ?_)
  simp only [List.length_map] at hn1 hn2
  subst hn1 hn2
  refine kwp_seq ?_
  refine kwp_region ?_
  refine kops_d rfl rfl (opv_assign rfl rfl) ?_
  refine kops_nil ?_
  refine kn_then ?_
  refine kwp_seq ?_
  refine kwp_seq ?_
  refine kwp_region ?_
  refine kops_d rfl rfl (opv_move rfl rfl) ?_
  refine kops_d rfl rfl (opv_len rfl rfl rfl Try.runUnderlying33) ?_
  refine kops_d rfl rfl (opv_move rfl rfl) ?_
  refine kops_d rfl rfl (opv_len rfl rfl rfl Try.runUnderlying33) ?_
  refine kops_d rfl rfl (opv_cmp rfl rfl rfl rfl) ?_
  refine kops_nil ?_
  refine kn_then ?_
  refine kwp_cond rfl (fun hc2 => ?_) (fun hc2 => ?_)
  ·
    first | have hc2n := kb_nt hc2 | have hc2n := kb_nf hc2 | have hc2n := hc2
    first | have hc2m := of_decide_eq_true hc2n | have hc2m := of_decide_eq_false hc2n | have hc2m := kb_eq hc2n | have hc2m := kb_ne hc2n | have hc2m := kb_bne hc2n | have hc2m := kb_nbne hc2n | have hc2m := isIx_t hc2n | have hc2m := isIx_f hc2n | have hc2m := inR_t hc2n | have hc2m := inR_f hc2n | have hc2m := dec_tt hc2n | have hc2m := dec_ff hc2n | have hc2m := hc2n
    try simp only [List.get_eq_getElem] at hc2n
    try simp only [List.get_eq_getElem] at hc2m
    refine kwp_seq ?_
    refine kwp_region ?_
    refine kops_d rfl rfl (opv_assign rfl rfl) ?_
    refine kops_nil ?_
    refine kn_then ?_
    refine kwp_ret ?_
    refine kr_then ?_
    refine kret1 [] rfl rfl ?_ (by (repeat (first | exact Sub.refl _ | exact Sub.nil _ | refine Sub.chunk (by repeat (first | exact Pick.here | apply Pick.there)) (by first | rfl | (simp; done) | (congr 1; omega)) ?_)))
    first | exact ⟨by rw [decide_eq_false (fun e => by subst e; omega)], rfl⟩ | exact ⟨by rw [decide_eq_false (ne_of_get (k := k) (by omega) (by omega) (by assumption))], rfl⟩ | exact ⟨by rw [decide_eq_true (eq_of_take htk (by omega) hlm)], rfl⟩
  ·
    first | have hc2n := kb_nt hc2 | have hc2n := kb_nf hc2 | have hc2n := hc2
    first | have hc2m := of_decide_eq_true hc2n | have hc2m := of_decide_eq_false hc2n | have hc2m := kb_eq hc2n | have hc2m := kb_ne hc2n | have hc2m := kb_bne hc2n | have hc2m := kb_nbne hc2n | have hc2m := isIx_t hc2n | have hc2m := isIx_f hc2n | have hc2m := inR_t hc2n | have hc2m := inR_f hc2n | have hc2m := dec_tt hc2n | have hc2m := dec_ff hc2n | have hc2m := hc2n
    try simp only [List.get_eq_getElem] at hc2n
    try simp only [List.get_eq_getElem] at hc2m
    refine kwp_skip ?_
    refine kn_then ?_
    refine kwp_seq ?_
    refine kwp_seq ?_
    refine kwp_region ?_
    refine kops_d rfl rfl (opv_assign rfl rfl) ?_
    refine kops_nil ?_
    refine kn_then ?_
    refine kwp_block ?_
    refine kwp_loop1 (inv := [(0, _), (1, _)]) (ic := [])
      (fun (k : Nat) => [(5, .int .i64 k)])
      (fun (k : Nat) => [])
      (fun (k : Nat) => k ≤ l.length ∧ l.length = m.length ∧ l.take k = m.take k)
      (fun (k : Nat) => l.length - k)
      ⟨0, ⟨by (exact ⟨by omega, by omega, by simp⟩), by (repeat (first | exact Knows.nil _ | refine Knows.cons2 rfl (by first | rfl | (simp; done) | (congr 1; omega)) ?_)), by (repeat (first | exact Sub.refl _ | exact Sub.nil _ | refine Sub.chunk (by repeat (first | exact Pick.here | apply Pick.there)) (by first | rfl | (simp; done) | (congr 1; omega)) ?_))⟩⟩ (fun k hp => ?_)
    obtain ⟨hk, hlm, htk⟩ := hp
    refine kwp_seq ?_
    refine kwp_seq ?_
    refine kwp_region ?_
    refine kops_d rfl rfl (opv_move rfl rfl) ?_
    refine kops_d rfl rfl (opv_move rfl rfl) ?_
    refine kops_d rfl rfl (opv_len rfl rfl rfl Try.runUnderlying33) ?_
    refine kops_d rfl rfl (opv_cmp rfl rfl rfl rfl) ?_
    refine kops_nil ?_
    refine kn_then ?_
    refine kwp_cond rfl (fun hc4 => ?_) (fun hc4 => ?_)
    ·
      first | have hc4n := kb_nt hc4 | have hc4n := kb_nf hc4 | have hc4n := hc4
      first | have hc4m := of_decide_eq_true hc4n | have hc4m := of_decide_eq_false hc4n | have hc4m := kb_eq hc4n | have hc4m := kb_ne hc4n | have hc4m := kb_bne hc4n | have hc4m := kb_nbne hc4n | have hc4m := isIx_t hc4n | have hc4m := isIx_f hc4n | have hc4m := inR_t hc4n | have hc4m := inR_f hc4n | have hc4m := dec_tt hc4n | have hc4m := dec_ff hc4n | have hc4m := hc4n
      try simp only [List.get_eq_getElem] at hc4n
      try simp only [List.get_eq_getElem] at hc4m
      refine kwp_skip ?_
      refine kn_then ?_
      refine kwp_seq ?_
      refine kwp_block ?_
      refine kwp_seq ?_
      refine kwp_draw [(0, true), (1, true), (2, true), (3, true), (4, true), (5, true), (6, true), (7, true), (8, false), (9, true)] [] _ drawMixed (by kernel_rfl) (fun _ _ _ h => h) (Sub.refl _) ?_
      refine ks_d rfl rfl rfl (opv_move rfl rfl) ?_
      refine ks_d rfl rfl rfl (opv_move rfl rfl) ?_
      refine ks_d rfl rfl rfl (opv_ia rfl rfl rfl Try.runUnderlying33 Try.sizeOf77 (by repeat (first | exact List.Mem.head _ | apply List.Mem.tail)) (by first | rfl | exact (Int.toNat_of_nonneg (by omega)).symm) (by first | omega | (simp only [List.length_map]; omega) | (rw [fill_len (by omega)]; omega) | (simp; omega) | (simp; done))) ?_
      refine ks_d rfl rfl rfl (opv_load_agg rfl rfl Try.isAgg77 Try.sizeOf77 (by repeat (first | exact List.Mem.head _ | apply List.Mem.tail)) (by first | rfl | exact get_map (by omega) | exact fill_get (by omega) | (simp; done))) ?_
      refine ks_d rfl rfl rfl (opv_move rfl rfl) ?_
      refine ks_d rfl rfl rfl (opv_move rfl rfl) ?_
      refine ks_d rfl rfl rfl (opv_ia rfl rfl rfl Try.runUnderlying33 Try.sizeOf77 (by repeat (first | exact List.Mem.head _ | apply List.Mem.tail)) (by first | rfl | exact (Int.toNat_of_nonneg (by omega)).symm) (by first | omega | (simp only [List.length_map]; omega) | (rw [fill_len (by omega)]; omega) | (simp; omega) | (simp; done))) ?_
      refine ks_d rfl rfl rfl (opv_load_agg rfl rfl Try.isAgg77 Try.sizeOf77 (by repeat (first | exact List.Mem.head _ | apply List.Mem.tail)) (by first | rfl | exact get_map (by omega) | exact fill_get (by omega) | (simp; done))) ?_
      refine ks_k rfl rfl (opk_call rfl Try.call82 rfl (c_laws_eqAirway ⟨_, _, _⟩ ⟨_, _, _⟩) ((perm_nil _)) ((Views.nil _)) ?_)
      rintro _ _ ⟨rfl, rfl⟩
      refine ⟨.inl (by (repeat (first | exact Sub.refl _ | exact Sub.nil _ | refine Sub.chunk (by repeat (first | exact Pick.here | apply Pick.there)) (by first | rfl | (simp; done) | (congr 1; omega)) ?_))), ?_⟩
      refine ks_d rfl rfl rfl (opv_not rfl rfl) ?_
      refine ks_nil ?_
      refine kn_then ?_
      refine kwp_cond rfl (fun hc7 => ?_) (fun hc7 => ?_)
      ·
        first | have hc7n := kb_nt hc7 | have hc7n := kb_nf hc7 | have hc7n := hc7
        first | have hc7m := of_decide_eq_true hc7n | have hc7m := of_decide_eq_false hc7n | have hc7m := kb_eq hc7n | have hc7m := kb_ne hc7n | have hc7m := kb_bne hc7n | have hc7m := kb_nbne hc7n | have hc7m := isIx_t hc7n | have hc7m := isIx_f hc7n | have hc7m := inR_t hc7n | have hc7m := inR_f hc7n | have hc7m := dec_tt hc7n | have hc7m := dec_ff hc7n | have hc7m := hc7n
        try simp only [List.get_eq_getElem] at hc7n
        try simp only [List.get_eq_getElem] at hc7m
        refine kwp_seq ?_
        refine kwp_region ?_
        refine kops_d rfl rfl (opv_assign rfl rfl) ?_
        refine kops_nil ?_
        refine kn_then ?_
        refine kwp_ret ?_
        refine kr_block ?_
        refine kr_then ?_
        refine kr_then ?_
        refine kr_block ?_
        refine kr_then ?_
        refine kret1 [] rfl rfl ?_ (by (repeat (first | exact Sub.refl _ | exact Sub.nil _ | refine Sub.chunk (by repeat (first | exact Pick.here | apply Pick.there)) (by first | rfl | (simp; done) | (congr 1; omega)) ?_)))
        first | exact ⟨by rw [decide_eq_false (fun e => by subst e; omega)], rfl⟩ | exact ⟨by rw [decide_eq_false (ne_of_get (k := k) (by omega) (by omega) (by assumption))], rfl⟩ | exact ⟨by rw [decide_eq_true (eq_of_take htk (by omega) hlm)], rfl⟩
      ·
        first | have hc7n := kb_nt hc7 | have hc7n := kb_nf hc7 | have hc7n := hc7
        first | have hc7m := of_decide_eq_true hc7n | have hc7m := of_decide_eq_false hc7n | have hc7m := kb_eq hc7n | have hc7m := kb_ne hc7n | have hc7m := kb_bne hc7n | have hc7m := kb_nbne hc7n | have hc7m := isIx_t hc7n | have hc7m := isIx_f hc7n | have hc7m := inR_t hc7n | have hc7m := inR_f hc7n | have hc7m := dec_tt hc7n | have hc7m := dec_ff hc7n | have hc7m := hc7n
        try simp only [List.get_eq_getElem] at hc7n
        try simp only [List.get_eq_getElem] at hc7m
        refine kwp_skip ?_
        refine kn_block ?_
        refine kn_then ?_
        refine kwp_region ?_
        refine kops_d rfl rfl (opv_move rfl rfl) ?_
        refine kops_d rfl rfl (by first | exact opv_add rfl rfl rfl ⟨by omega, by omega⟩ | exact opv_ari rfl rfl rfl rfl) ?_
        refine kops_d rfl rfl (opv_assign rfl rfl) ?_
        refine kops_nil ?_
        refine kn_then ?_
        exact ⟨k + 1, ⟨by (exact ⟨by omega, hlm, take_succ_eq htk (by omega) (by omega) (by assumption)⟩), by (repeat (first | exact Knows.nil _ | refine Knows.cons2 rfl (by first | rfl | (simp; done) | (congr 1; omega)) ?_)), by (repeat (first | exact Sub.refl _ | exact Sub.nil _ | refine Sub.chunk (by repeat (first | exact Pick.here | apply Pick.there)) (by first | rfl | (simp; done) | (congr 1; omega)) ?_))⟩, by omega⟩
    ·
      first | have hc4n := kb_nt hc4 | have hc4n := kb_nf hc4 | have hc4n := hc4
      first | have hc4m := of_decide_eq_true hc4n | have hc4m := of_decide_eq_false hc4n | have hc4m := kb_eq hc4n | have hc4m := kb_ne hc4n | have hc4m := kb_bne hc4n | have hc4m := kb_nbne hc4n | have hc4m := isIx_t hc4n | have hc4m := isIx_f hc4n | have hc4m := inR_t hc4n | have hc4m := inR_f hc4n | have hc4m := dec_tt hc4n | have hc4m := dec_ff hc4n | have hc4m := hc4n
      try simp only [List.get_eq_getElem] at hc4n
      try simp only [List.get_eq_getElem] at hc4m
      refine kwp_exit ?_
      refine ke_then ?_
      refine ke_then ?_
      refine ke_block ?_
      refine kn_then ?_
      refine kwp_seq ?_
      refine kwp_region ?_
      refine kops_d rfl rfl (opv_assign rfl rfl) ?_
      refine kops_nil ?_
      refine kn_then ?_
      refine kwp_ret ?_
      refine kret1 [] rfl rfl ?_ (by (repeat (first | exact Sub.refl _ | exact Sub.nil _ | refine Sub.chunk (by repeat (first | exact Pick.here | apply Pick.there)) (by first | rfl | (simp; done) | (congr 1; omega)) ?_)))
      first | exact ⟨by rw [decide_eq_false (fun e => by subst e; omega)], rfl⟩ | exact ⟨by rw [decide_eq_false (ne_of_get (k := k) (by omega) (by omega) (by assumption))], rfl⟩ | exact ⟨by rw [decide_eq_true (eq_of_take htk (by omega) hlm)], rfl⟩

set_option maxRecDepth 20000 in
theorem c_laws_eqMine (p1 p2 : Int) (a1 a2 : Option Addr) (n1 c1 n2 c2 : Nat) (l m : List Airway) (hb : n1 ≤ 9223372036854775807 ∧ n2 ≤ 9223372036854775807) :
    Triple Try.prog 22 [.agg #[.int .i64 p1, .slice a1 n1 c1], .agg #[.int .i64 p2, .slice a2 n2 c2]] [⟨.slice a1 n1 c1, 3, l.map encAirway⟩, ⟨.slice a2 n2 c2, 3, m.map encAirway⟩] [] (fun r ch => r = .bool (decide (p1 = p2) && decide (l = m)) ∧ ch = []) := by
  refine triple_start 16 Try.func22 Try.ntmps22 rfl rfl (fun w0 => ?_)
  refine kwp_seq ?_
  refine kwp_region ?_
  refine kops_step rfl (opk_box' (e := [_, _]) 2 rfl rfl rfl rfl (by decide) (fun p2 => ?_))
  refine kops_step rfl (opk_box' (e := [_, _]) 2 rfl rfl rfl rfl (by decide) (fun p3 => ?_))
  refine kops_d rfl rfl (opv_assign rfl rfl) ?_
  refine kops_nil ?_
  refine kn_then ?_
  refine kwp_seq ?_
  refine kwp_seq ?_
  refine kwp_region ?_
  refine kops_d rfl rfl (opv_fab rfl rfl fa_35_0 (by repeat (first | exact List.Mem.head _ | apply List.Mem.tail))) ?_
  refine kops_d rfl rfl (opv_load rfl rfl Try.isAgg3 (by repeat (first | exact List.Mem.head _ | apply List.Mem.tail)) (by first | rfl | exact get_map (by omega) | exact fill_get (by omega) | (simp; done)) rfl) ?_
  refine kops_d rfl rfl (opv_fab rfl rfl fa_35_0 (by repeat (first | exact List.Mem.head _ | apply List.Mem.tail))) ?_
  refine kops_d rfl rfl (opv_load rfl rfl Try.isAgg3 (by repeat (first | exact List.Mem.head _ | apply List.Mem.tail)) (by first | rfl | exact get_map (by omega) | exact fill_get (by omega) | (simp; done)) rfl) ?_
  refine kops_d rfl rfl (opv_cmp rfl rfl rfl rfl) ?_
  refine kops_nil ?_
  refine kn_then ?_
  refine kwp_cond rfl (fun hc2 => ?_) (fun hc2 => ?_)
  ·
    first | have hc2n := kb_nt hc2 | have hc2n := kb_nf hc2 | have hc2n := hc2
    first | have hc2m := of_decide_eq_true hc2n | have hc2m := of_decide_eq_false hc2n | have hc2m := kb_eq hc2n | have hc2m := kb_ne hc2n | have hc2m := kb_bne hc2n | have hc2m := kb_nbne hc2n | have hc2m := isIx_t hc2n | have hc2m := isIx_f hc2n | have hc2m := inR_t hc2n | have hc2m := inR_f hc2n | have hc2m := dec_tt hc2n | have hc2m := dec_ff hc2n | have hc2m := hc2n
    try simp only [List.get_eq_getElem] at hc2n
    try simp only [List.get_eq_getElem] at hc2m
    refine kwp_seq ?_
    refine kwp_region ?_
    refine kops_d rfl rfl (opv_assign rfl rfl) ?_
    refine kops_nil ?_
    refine kn_then ?_
    refine kwp_ret ?_
    refine kr_then ?_
    refine kret1 [] rfl rfl ?_ (by (repeat (first | exact Sub.refl _ | exact Sub.nil _ | refine Sub.chunk (by repeat (first | exact Pick.here | apply Pick.there)) (by first | rfl | (simp; done) | (congr 1; omega)) ?_)))
    exact ⟨by simp_all, rfl⟩
  ·
    first | have hc2n := kb_nt hc2 | have hc2n := kb_nf hc2 | have hc2n := hc2
    first | have hc2m := of_decide_eq_true hc2n | have hc2m := of_decide_eq_false hc2n | have hc2m := kb_eq hc2n | have hc2m := kb_ne hc2n | have hc2m := kb_bne hc2n | have hc2m := kb_nbne hc2n | have hc2m := isIx_t hc2n | have hc2m := isIx_f hc2n | have hc2m := inR_t hc2n | have hc2m := inR_f hc2n | have hc2m := dec_tt hc2n | have hc2m := dec_ff hc2n | have hc2m := hc2n
    try simp only [List.get_eq_getElem] at hc2n
    try simp only [List.get_eq_getElem] at hc2m
    refine kwp_skip ?_
    refine kn_then ?_
    refine kwp_seq ?_
    refine kwp_seq ?_
    refine kwp_region ?_
    refine kops_d rfl rfl (opv_fab rfl rfl fa_35_1 (by repeat (first | exact List.Mem.head _ | apply List.Mem.tail))) ?_
    refine kops_d rfl rfl (opv_load rfl rfl Try.isAgg33 (by repeat (first | exact List.Mem.head _ | apply List.Mem.tail)) (by first | rfl | exact get_map (by omega) | exact fill_get (by omega) | (simp; done)) rfl) ?_
    refine kops_d rfl rfl (opv_fab rfl rfl fa_35_1 (by repeat (first | exact List.Mem.head _ | apply List.Mem.tail))) ?_
    refine kops_d rfl rfl (opv_load rfl rfl Try.isAgg33 (by repeat (first | exact List.Mem.head _ | apply List.Mem.tail)) (by first | rfl | exact get_map (by omega) | exact fill_get (by omega) | (simp; done)) rfl) ?_
    refine kops_step rfl (opk_call rfl Try.call61 rfl (c_laws_eqAirwayS _ _ _ _ _ _ l m hb) ((perm_nil _)) (Views.cons (by repeat (first | exact List.Mem.head _ | apply List.Mem.tail)) (View.refl _) (Views.cons (by repeat (first | exact List.Mem.head _ | apply List.Mem.tail)) (View.refl _) ((Views.nil _)))) ?_)
    rintro _ _ ⟨rfl, rfl⟩
    refine kops_d rfl rfl (opv_not rfl rfl) ?_
    refine kops_nil ?_
    refine kn_then ?_
    refine kwp_cond rfl (fun hc5 => ?_) (fun hc5 => ?_)
    ·
      first | have hc5n := kb_nt hc5 | have hc5n := kb_nf hc5 | have hc5n := hc5
      first | have hc5m := of_decide_eq_true hc5n | have hc5m := of_decide_eq_false hc5n | have hc5m := kb_eq hc5n | have hc5m := kb_ne hc5n | have hc5m := kb_bne hc5n | have hc5m := kb_nbne hc5n | have hc5m := isIx_t hc5n | have hc5m := isIx_f hc5n | have hc5m := inR_t hc5n | have hc5m := inR_f hc5n | have hc5m := dec_tt hc5n | have hc5m := dec_ff hc5n | have hc5m := hc5n
      try simp only [List.get_eq_getElem] at hc5n
      try simp only [List.get_eq_getElem] at hc5m
      refine kwp_seq ?_
      refine kwp_region ?_
      refine kops_d rfl rfl (opv_assign rfl rfl) ?_
      refine kops_nil ?_
      refine kn_then ?_
      refine kwp_ret ?_
      refine kr_then ?_
      refine kret1 [] rfl rfl ?_ (by (repeat (first | exact Sub.refl _ | exact Sub.nil _ | refine Sub.chunk (by repeat (first | exact Pick.here | apply Pick.there)) (by first | rfl | (simp; done) | (congr 1; omega)) ?_)))
      exact ⟨by simp_all, rfl⟩
    ·
      first | have hc5n := kb_nt hc5 | have hc5n := kb_nf hc5 | have hc5n := hc5
      first | have hc5m := of_decide_eq_true hc5n | have hc5m := of_decide_eq_false hc5n | have hc5m := kb_eq hc5n | have hc5m := kb_ne hc5n | have hc5m := kb_bne hc5n | have hc5m := kb_nbne hc5n | have hc5m := isIx_t hc5n | have hc5m := isIx_f hc5n | have hc5m := inR_t hc5n | have hc5m := inR_f hc5n | have hc5m := dec_tt hc5n | have hc5m := dec_ff hc5n | have hc5m := hc5n
      try simp only [List.get_eq_getElem] at hc5n
      try simp only [List.get_eq_getElem] at hc5m
      refine kwp_skip ?_
      refine kn_then ?_
      refine kwp_seq ?_
      refine kwp_region ?_
      refine kops_d rfl rfl (opv_assign rfl rfl) ?_
      refine kops_nil ?_
      refine kn_then ?_
      refine kwp_ret ?_
      refine kret1 [] rfl rfl ?_ (by (repeat (first | exact Sub.refl _ | exact Sub.nil _ | refine Sub.chunk (by repeat (first | exact Pick.here | apply Pick.there)) (by first | rfl | (simp; done) | (congr 1; omega)) ?_)))
      exact ⟨by simp_all, rfl⟩

set_option maxRecDepth 20000 in
theorem c_impl_MineValid (p : Int) (a : Option Addr) (n c : Nat) (l : List Airway) (hb : n ≤ 9223372036854775807) :
    Triple Try.prog 21 [.agg #[.int .i64 p, .slice a n c]] [⟨.slice a n c, 3, l.map encAirway⟩] [] (fun r ch => r = .bool (dec (MineOk p l)) ∧ ch = []) := by
  refine triple_start 56 Try.func21 Try.ntmps21 rfl rfl (fun w0 => ?_)
  refine kwp_len (List.Mem.head _) (fun hn => ?_)
  simp only [List.length_map] at hn
  subst hn
  refine kwp_seq ?_
  refine kwp_region ?_
  refine kops_step rfl (opk_box' (e := [_, _]) 2 rfl rfl rfl rfl (by decide) (fun p1 => ?_))
  refine kops_d rfl rfl (opv_assign rfl rfl) ?_
  refine kops_nil ?_
  refine kn_then ?_
  refine kwp_seq ?_
  refine kwp_seq ?_
  refine kwp_region ?_
  refine kops_d rfl rfl (opv_fab rfl rfl fa_35_0 (by repeat (first | exact List.Mem.head _ | apply List.Mem.tail))) ?_
  refine kops_d rfl rfl (opv_load rfl rfl Try.isAgg3 (by repeat (first | exact List.Mem.head _ | apply List.Mem.tail)) (by first | rfl | exact gx_map (by omega) | exact fill_get (by omega) | (simp; done)) rfl) ?_
  refine kops_d rfl rfl (opv_cmp rfl rfl rfl rfl) ?_
  refine kops_d rfl rfl (opv_move rfl rfl) ?_
  refine kops_split 8 rfl (fun hb2 => ?_) (fun hb2 => ?_)
  ·
    first | have hb2n := kb_nt hb2 | have hb2n := kb_nf hb2 | have hb2n := hb2
    first | have hb2m := of_decide_eq_true hb2n | have hb2m := of_decide_eq_false hb2n | have hb2m := kb_eq hb2n | have hb2m := kb_ne hb2n | have hb2m := kb_bne hb2n | have hb2m := kb_nbne hb2n | have hb2m := isIx_t hb2n | have hb2m := isIx_f hb2n | have hb2m := inR_t hb2n | have hb2m := inR_f hb2n | have hb2m := dec_tt hb2n | have hb2m := dec_ff hb2n | have hb2m := hb2n
    try simp only [List.get_eq_getElem] at hb2n
    try simp only [List.get_eq_getElem] at hb2m
    refine kops_skip rfl rfl rfl hb2 ?_
    refine kops_skip rfl rfl rfl hb2 ?_
    refine kops_skip rfl rfl rfl hb2 ?_
    refine kops_d rfl rfl (opv_pick_t rfl rfl rfl hb2) ?_
    refine kops_d rfl rfl (opv_move rfl rfl) ?_
    refine kops_skip rfl rfl rfl rfl ?_
    refine kops_skip rfl rfl rfl rfl ?_
    refine kops_skip rfl rfl rfl rfl ?_
    refine kops_skip rfl rfl rfl rfl ?_
    refine kops_d rfl rfl (opv_pick_t rfl rfl rfl rfl) ?_
    refine kops_nil ?_
    refine kn_then ?_
    refine kwp_cond_t rfl rfl ?_
    refine kwp_seq ?_
    refine kwp_region ?_
    refine kops_d rfl rfl (opv_assign rfl rfl) ?_
    refine kops_nil ?_
    refine kn_then ?_
    refine kwp_ret ?_
    refine kr_then ?_
    refine kret1 [] rfl rfl ?_ (by (repeat (first | exact Sub.refl _ | exact Sub.nil _ | refine Sub.chunk (by repeat (first | exact Pick.here | apply Pick.there)) (by first | rfl | (simp; done) | (congr 1; omega)) ?_)))
    first | exact ⟨by rw [dec_f (fun h => by have h1 := h.p1; have h2 := h.p5; have h3 := h.n7; omega)], rfl⟩ | exact ⟨by rw [dec_t ⟨by omega, by omega, by omega, fun i hi => haw i (by omega)⟩], rfl⟩ | exact ⟨by rw [dec_f (fun h => by obtain ⟨h1, h2, h3, h4, h5, h6, h7⟩ := h.aw k (by omega); first | omega | exact h5 (by assumption))], rfl⟩
  ·
    first | have hb2n := kb_nt hb2 | have hb2n := kb_nf hb2 | have hb2n := hb2
    first | have hb2m := of_decide_eq_true hb2n | have hb2m := of_decide_eq_false hb2n | have hb2m := kb_eq hb2n | have hb2m := kb_ne hb2n | have hb2m := kb_bne hb2n | have hb2m := kb_nbne hb2n | have hb2m := isIx_t hb2n | have hb2m := isIx_f hb2n | have hb2m := inR_t hb2n | have hb2m := inR_f hb2n | have hb2m := dec_tt hb2n | have hb2m := dec_ff hb2n | have hb2m := hb2n
    try simp only [List.get_eq_getElem] at hb2n
    try simp only [List.get_eq_getElem] at hb2m
    refine kops_gd rfl rfl rfl hb2 rfl (opv_fab rfl rfl fa_35_0 (by repeat (first | exact List.Mem.head _ | apply List.Mem.tail))) ?_
    refine kops_gd rfl rfl rfl hb2 rfl (opv_load rfl rfl Try.isAgg3 (by repeat (first | exact List.Mem.head _ | apply List.Mem.tail)) (by first | rfl | exact gx_map (by omega) | exact fill_get (by omega) | (simp; done)) rfl) ?_
    refine kops_gd rfl rfl rfl hb2 rfl (opv_cmp rfl rfl rfl rfl) ?_
    refine kops_d rfl rfl (opv_pick_f rfl rfl rfl hb2) ?_
    refine kops_d rfl rfl (opv_move rfl rfl) ?_
    refine kops_split 13 rfl (fun hb4 => ?_) (fun hb4 => ?_)
    ·
      first | have hb4n := kb_nt hb4 | have hb4n := kb_nf hb4 | have hb4n := hb4
      first | have hb4m := of_decide_eq_true hb4n | have hb4m := of_decide_eq_false hb4n | have hb4m := kb_eq hb4n | have hb4m := kb_ne hb4n | have hb4m := kb_bne hb4n | have hb4m := kb_nbne hb4n | have hb4m := isIx_t hb4n | have hb4m := isIx_f hb4n | have hb4m := inR_t hb4n | have hb4m := inR_f hb4n | have hb4m := dec_tt hb4n | have hb4m := dec_ff hb4n | have hb4m := hb4n
      try simp only [List.get_eq_getElem] at hb4n
      try simp only [List.get_eq_getElem] at hb4m
      refine kops_skip rfl rfl rfl hb4 ?_
      refine kops_skip rfl rfl rfl hb4 ?_
      refine kops_skip rfl rfl rfl hb4 ?_
      refine kops_skip rfl rfl rfl hb4 ?_
      refine kops_d rfl rfl (opv_pick_t rfl rfl rfl hb4) ?_
      refine kops_nil ?_
      refine kn_then ?_
      refine kwp_cond_t rfl rfl ?_
      refine kwp_seq ?_
      refine kwp_region ?_
      refine kops_d rfl rfl (opv_assign rfl rfl) ?_
      refine kops_nil ?_
      refine kn_then ?_
      refine kwp_ret ?_
      refine kr_then ?_
      refine kret1 [] rfl rfl ?_ (by (repeat (first | exact Sub.refl _ | exact Sub.nil _ | refine Sub.chunk (by repeat (first | exact Pick.here | apply Pick.there)) (by first | rfl | (simp; done) | (congr 1; omega)) ?_)))
      first | exact ⟨by rw [dec_f (fun h => by have h1 := h.p1; have h2 := h.p5; have h3 := h.n7; omega)], rfl⟩ | exact ⟨by rw [dec_t ⟨by omega, by omega, by omega, fun i hi => haw i (by omega)⟩], rfl⟩ | exact ⟨by rw [dec_f (fun h => by obtain ⟨h1, h2, h3, h4, h5, h6, h7⟩ := h.aw k (by omega); first | omega | exact h5 (by assumption))], rfl⟩
    ·
      first | have hb4n := kb_nt hb4 | have hb4n := kb_nf hb4 | have hb4n := hb4
      first | have hb4m := of_decide_eq_true hb4n | have hb4m := of_decide_eq_false hb4n | have hb4m := kb_eq hb4n | have hb4m := kb_ne hb4n | have hb4m := kb_bne hb4n | have hb4m := kb_nbne hb4n | have hb4m := isIx_t hb4n | have hb4m := isIx_f hb4n | have hb4m := inR_t hb4n | have hb4m := inR_f hb4n | have hb4m := dec_tt hb4n | have hb4m := dec_ff hb4n | have hb4m := hb4n
      try simp only [List.get_eq_getElem] at hb4n
      try simp only [List.get_eq_getElem] at hb4m
      refine kops_gd rfl rfl rfl hb4 rfl (opv_fab rfl rfl fa_35_1 (by repeat (first | exact List.Mem.head _ | apply List.Mem.tail))) ?_
      refine kops_gd rfl rfl rfl hb4 rfl (opv_load rfl rfl Try.isAgg33 (by repeat (first | exact List.Mem.head _ | apply List.Mem.tail)) (by first | rfl | exact gx_map (by omega) | exact fill_get (by omega) | (simp; done)) rfl) ?_
      refine kops_gd rfl rfl rfl hb4 rfl (opv_len rfl rfl rfl Try.runUnderlying33) ?_
      refine kops_gd rfl rfl rfl hb4 rfl (opv_cmp rfl rfl rfl rfl) ?_
      refine kops_d rfl rfl (opv_pick_f rfl rfl rfl hb4) ?_
      refine kops_nil ?_
      refine kn_then ?_
      refine kwp_cond rfl (fun hc6 => ?_) (fun hc6 => ?_)
      ·
        first | have hc6n := kb_nt hc6 | have hc6n := kb_nf hc6 | have hc6n := hc6
        first | have hc6m := of_decide_eq_true hc6n | have hc6m := of_decide_eq_false hc6n | have hc6m := kb_eq hc6n | have hc6m := kb_ne hc6n | have hc6m := kb_bne hc6n | have hc6m := kb_nbne hc6n | have hc6m := isIx_t hc6n | have hc6m := isIx_f hc6n | have hc6m := inR_t hc6n | have hc6m := inR_f hc6n | have hc6m := dec_tt hc6n | have hc6m := dec_ff hc6n | have hc6m := hc6n
        try simp only [List.get_eq_getElem] at hc6n
        try simp only [List.get_eq_getElem] at hc6m
        refine kwp_seq ?_
        refine kwp_region ?_
        refine kops_d rfl rfl (opv_assign rfl rfl) ?_
        refine kops_nil ?_
        refine kn_then ?_
        refine kwp_ret ?_
        refine kr_then ?_
        refine kret1 [] rfl rfl ?_ (by (repeat (first | exact Sub.refl _ | exact Sub.nil _ | refine Sub.chunk (by repeat (first | exact Pick.here | apply Pick.there)) (by first | rfl | (simp; done) | (congr 1; omega)) ?_)))
        first | exact ⟨by rw [dec_f (fun h => by have h1 := h.p1; have h2 := h.p5; have h3 := h.n7; omega)], rfl⟩ | exact ⟨by rw [dec_t ⟨by omega, by omega, by omega, fun i hi => haw i (by omega)⟩], rfl⟩ | exact ⟨by rw [dec_f (fun h => by obtain ⟨h1, h2, h3, h4, h5, h6, h7⟩ := h.aw k (by omega); first | omega | exact h5 (by assumption))], rfl⟩
      ·
        first | have hc6n := kb_nt hc6 | have hc6n := kb_nf hc6 | have hc6n := hc6
        first | have hc6m := of_decide_eq_true hc6n | have hc6m := of_decide_eq_false hc6n | have hc6m := kb_eq hc6n | have hc6m := kb_ne hc6n | have hc6m := kb_bne hc6n | have hc6m := kb_nbne hc6n | have hc6m := isIx_t hc6n | have hc6m := isIx_f hc6n | have hc6m := inR_t hc6n | have hc6m := inR_f hc6n | have hc6m := dec_tt hc6n | have hc6m := dec_ff hc6n | have hc6m := hc6n
        try simp only [List.get_eq_getElem] at hc6n
        try simp only [List.get_eq_getElem] at hc6m
        refine kwp_skip ?_
        refine kn_then ?_
        refine kwp_seq ?_
        refine kwp_seq ?_
        refine kwp_region ?_
        refine kops_d rfl rfl (opv_fab rfl rfl fa_35_1 (by repeat (first | exact List.Mem.head _ | apply List.Mem.tail))) ?_
        refine kops_d rfl rfl (opv_load rfl rfl Try.isAgg33 (by repeat (first | exact List.Mem.head _ | apply List.Mem.tail)) (by first | rfl | exact gx_map (by omega) | exact fill_get (by omega) | (simp; done)) rfl) ?_
        refine kops_d rfl rfl (opv_len rfl rfl rfl Try.runUnderlying33) ?_
        refine kops_d rfl rfl (opv_move rfl rfl) ?_
        refine kops_nil ?_
        refine kn_then ?_
        refine kwp_block ?_
        refine kwp_loop1 (inv := [(1, _), (20, _), (21, _)]) (ic := [⟨.pointer (some p1), _, _⟩])
          (fun (k : Nat) => [(22, .int .i64 k)])
          (fun (k : Nat) => [])
          (fun (k : Nat) => k ≤ l.length ∧ (∀ i, i < k → AwOk p (gx l i)))
          (fun (k : Nat) => l.length - k)
          ⟨0, ⟨by (exact ⟨by omega, fun i hi => by omega⟩), by (repeat (first | exact Knows.nil _ | refine Knows.cons2 rfl (by first | rfl | (simp; done) | (congr 1; omega)) ?_)), by (repeat (first | exact Sub.refl _ | exact Sub.nil _ | refine Sub.chunk (by repeat (first | exact Pick.here | apply Pick.there)) (by first | rfl | (simp; done) | (congr 1; omega)) ?_))⟩⟩ (fun k hp => ?_)
        obtain ⟨hk, haw⟩ := hp
        refine kwp_seq ?_
        refine kwp_region ?_
        refine kops_d rfl rfl (opv_cmp rfl rfl rfl rfl) ?_
        refine kops_nil ?_
        refine kn_then ?_
        refine kwp_seq ?_
        refine kwp_cond rfl (fun hc8 => ?_) (fun hc8 => ?_)
        ·
          first | have hc8n := kb_nt hc8 | have hc8n := kb_nf hc8 | have hc8n := hc8
          first | have hc8m := of_decide_eq_true hc8n | have hc8m := of_decide_eq_false hc8n | have hc8m := kb_eq hc8n | have hc8m := kb_ne hc8n | have hc8m := kb_bne hc8n | have hc8m := kb_nbne hc8n | have hc8m := isIx_t hc8n | have hc8m := isIx_f hc8n | have hc8m := inR_t hc8n | have hc8m := inR_f hc8n | have hc8m := dec_tt hc8n | have hc8m := dec_ff hc8n | have hc8m := hc8n
          try simp only [List.get_eq_getElem] at hc8n
          try simp only [List.get_eq_getElem] at hc8m
          refine kwp_skip ?_
          refine kn_then ?_
          refine kwp_seq ?_
          refine kwp_block ?_
          refine kwp_seq ?_
          refine kwp_region ?_
          refine kops_d rfl rfl (opv_ia rfl rfl rfl Try.runUnderlying33 Try.sizeOf77 (by repeat (first | exact List.Mem.head _ | apply List.Mem.tail)) (by first | rfl | exact (Int.toNat_of_nonneg (by omega)).symm) (by first | omega | (simp only [List.length_map]; omega) | (rw [fill_len (by omega)]; omega) | (simp; omega) | (simp; done))) ?_
          refine kops_d rfl rfl (opv_load_agg rfl rfl Try.isAgg77 Try.sizeOf77 (by repeat (first | exact List.Mem.head _ | apply List.Mem.tail)) (by first | rfl | exact gx_map (by omega) | exact fill_get (by omega) | (simp; done))) ?_
          refine kops_step rfl (opk_alloc' (e := [_, _, _]) 3 rfl Try.zeroValue77 rfl rfl (by decide) (fun p4 => ?_))
          refine kops_step rfl (opk_store_box (e' := [_, _, _]) rfl rfl rfl Try.sizeOf77 rfl (by first | exact one_aw | exact one_int | exact one_sill | decide | (simp [Value.oneCell']; done) | (intro x hx; simp at hx; rcases hx with rfl | rfl | rfl | rfl | rfl <;> rfl)) rfl (by repeat (first | exact Upd.here | apply Upd.there)) ?_)
          refine kops_nil ?_
          refine kn_then ?_
          refine kwp_seq ?_
          refine kwp_seq ?_
          refine kwp_region ?_
          refine kops_d rfl rfl (opv_fab rfl rfl fa_77_0 (by repeat (first | exact List.Mem.head _ | apply List.Mem.tail))) ?_
          refine kops_d rfl rfl (opv_load rfl rfl Try.isAgg3 (by repeat (first | exact List.Mem.head _ | apply List.Mem.tail)) (by first | rfl | exact gx_map (by omega) | exact fill_get (by omega) | (simp; done)) rfl) ?_
          refine kops_d rfl rfl (opv_fab rfl rfl fa_35_0 (by repeat (first | exact List.Mem.head _ | apply List.Mem.tail))) ?_
          refine kops_d rfl rfl (opv_load rfl rfl Try.isAgg3 (by repeat (first | exact List.Mem.head _ | apply List.Mem.tail)) (by first | rfl | exact gx_map (by omega) | exact fill_get (by omega) | (simp; done)) rfl) ?_
          refine kops_step rfl (opk_call rfl Try.call60 rfl (c_impl_isIndex _ _) ((perm_nil _)) ((Views.nil _)) ?_)
          rintro _ _ ⟨rfl, rfl⟩
          refine kops_d rfl rfl (opv_not rfl rfl) ?_
          refine kops_d rfl rfl (opv_move rfl rfl) ?_
          refine kops_split 32 rfl (fun hb11 => ?_) (fun hb11 => ?_)
          ·
            first | have hb11n := kb_nt hb11 | have hb11n := kb_nf hb11 | have hb11n := hb11
            first | have hb11m := of_decide_eq_true hb11n | have hb11m := of_decide_eq_false hb11n | have hb11m := kb_eq hb11n | have hb11m := kb_ne hb11n | have hb11m := kb_bne hb11n | have hb11m := kb_nbne hb11n | have hb11m := isIx_t hb11n | have hb11m := isIx_f hb11n | have hb11m := inR_t hb11n | have hb11m := inR_f hb11n | have hb11m := dec_tt hb11n | have hb11m := dec_ff hb11n | have hb11m := hb11n
            try simp only [List.get_eq_getElem] at hb11n
            try simp only [List.get_eq_getElem] at hb11m
            refine kops_skip rfl rfl rfl hb11 ?_
            refine kops_skip rfl rfl rfl hb11 ?_
            refine kops_skip rfl rfl rfl hb11 ?_
            refine kops_skip rfl rfl rfl hb11 ?_
            refine kops_skip rfl rfl rfl hb11 ?_
            refine kops_skip rfl rfl rfl hb11 ?_
            refine kops_d rfl rfl (opv_pick_t rfl rfl rfl hb11) ?_
            refine kops_d rfl rfl (opv_move rfl rfl) ?_
            refine kops_skip rfl rfl rfl rfl ?_
            refine kops_skip rfl rfl rfl rfl ?_
            refine kops_skip rfl rfl rfl rfl ?_
            refine kops_skip rfl rfl rfl rfl ?_
            refine kops_skip rfl rfl rfl rfl ?_
            refine kops_d rfl rfl (opv_pick_t rfl rfl rfl rfl) ?_
            refine kops_nil ?_
            refine kn_then ?_
            refine kwp_cond_t rfl rfl ?_
            refine kwp_seq ?_
            refine kwp_region ?_
            refine kops_d rfl rfl (opv_assign rfl rfl) ?_
            refine kops_nil ?_
            refine kn_then ?_
            refine kwp_ret ?_
            refine kr_then ?_
            refine kr_block ?_
            refine kr_then ?_
            refine kr_then ?_
            refine kr_block ?_
            refine kr_then ?_
            refine kret1 [] rfl rfl ?_ (by (repeat (first | exact Sub.refl _ | exact Sub.nil _ | refine Sub.chunk (by repeat (first | exact Pick.here | apply Pick.there)) (by first | rfl | (simp; done) | (congr 1; omega)) ?_)))
            first | exact ⟨by rw [dec_f (fun h => by have h1 := h.p1; have h2 := h.p5; have h3 := h.n7; omega)], rfl⟩ | exact ⟨by rw [dec_t ⟨by omega, by omega, by omega, fun i hi => haw i (by omega)⟩], rfl⟩ | exact ⟨by rw [dec_f (fun h => by obtain ⟨h1, h2, h3, h4, h5, h6, h7⟩ := h.aw k (by omega); first | omega | exact h5 (by assumption))], rfl⟩
          ·
            first | have hb11n := kb_nt hb11 | have hb11n := kb_nf hb11 | have hb11n := hb11
            first | have hb11m := of_decide_eq_true hb11n | have hb11m := of_decide_eq_false hb11n | have hb11m := kb_eq hb11n | have hb11m := kb_ne hb11n | have hb11m := kb_bne hb11n | have hb11m := kb_nbne hb11n | have hb11m := isIx_t hb11n | have hb11m := isIx_f hb11n | have hb11m := inR_t hb11n | have hb11m := inR_f hb11n | have hb11m := dec_tt hb11n | have hb11m := dec_ff hb11n | have hb11m := hb11n
            try simp only [List.get_eq_getElem] at hb11n
            try simp only [List.get_eq_getElem] at hb11m
            refine kops_gd rfl rfl rfl hb11 rfl (opv_fab rfl rfl fa_77_1 (by repeat (first | exact List.Mem.head _ | apply List.Mem.tail))) ?_
            refine kops_gd rfl rfl rfl hb11 rfl (opv_load rfl rfl Try.isAgg3 (by repeat (first | exact List.Mem.head _ | apply List.Mem.tail)) (by first | rfl | exact gx_map (by omega) | exact fill_get (by omega) | (simp; done)) rfl) ?_
            refine kops_gd rfl rfl rfl hb11 rfl (opv_fab rfl rfl fa_35_0 (by repeat (first | exact List.Mem.head _ | apply List.Mem.tail))) ?_
            refine kops_gd rfl rfl rfl hb11 rfl (opv_load rfl rfl Try.isAgg3 (by repeat (first | exact List.Mem.head _ | apply List.Mem.tail)) (by first | rfl | exact gx_map (by omega) | exact fill_get (by omega) | (simp; done)) rfl) ?_
            refine kops_gk rfl rfl rfl hb11 (opk_call rfl Try.call60 rfl (c_impl_isIndex _ _) ((perm_nil _)) ((Views.nil _)) ?_)
            rintro _ _ ⟨rfl, rfl⟩
            refine kops_gd rfl rfl rfl hb11 rfl (opv_not rfl rfl) ?_
            refine kops_d rfl rfl (opv_pick_f rfl rfl rfl hb11) ?_
            refine kops_d rfl rfl (opv_move rfl rfl) ?_
            refine kops_split 40 rfl (fun hb14 => ?_) (fun hb14 => ?_)
            ·
              first | have hb14n := kb_nt hb14 | have hb14n := kb_nf hb14 | have hb14n := hb14
              first | have hb14m := of_decide_eq_true hb14n | have hb14m := of_decide_eq_false hb14n | have hb14m := kb_eq hb14n | have hb14m := kb_ne hb14n | have hb14m := kb_bne hb14n | have hb14m := kb_nbne hb14n | have hb14m := isIx_t hb14n | have hb14m := isIx_f hb14n | have hb14m := inR_t hb14n | have hb14m := inR_f hb14n | have hb14m := dec_tt hb14n | have hb14m := dec_ff hb14n | have hb14m := hb14n
              try simp only [List.get_eq_getElem] at hb14n
              try simp only [List.get_eq_getElem] at hb14m
              refine kops_skip rfl rfl rfl hb14 ?_
              refine kops_skip rfl rfl rfl hb14 ?_
              refine kops_skip rfl rfl rfl hb14 ?_
              refine kops_skip rfl rfl rfl hb14 ?_
              refine kops_skip rfl rfl rfl hb14 ?_
              refine kops_d rfl rfl (opv_pick_t rfl rfl rfl hb14) ?_
              refine kops_nil ?_
              refine kn_then ?_
              refine kwp_cond_t rfl rfl ?_
              refine kwp_seq ?_
              refine kwp_region ?_
              refine kops_d rfl rfl (opv_assign rfl rfl) ?_
              refine kops_nil ?_
              refine kn_then ?_
              refine kwp_ret ?_
              refine kr_then ?_
              refine kr_block ?_
              refine kr_then ?_
              refine kr_then ?_
              refine kr_block ?_
              refine kr_then ?_
              refine kret1 [] rfl rfl ?_ (by (repeat (first | exact Sub.refl _ | exact Sub.nil _ | refine Sub.chunk (by repeat (first | exact Pick.here | apply Pick.there)) (by first | rfl | (simp; done) | (congr 1; omega)) ?_)))
              first | exact ⟨by rw [dec_f (fun h => by have h1 := h.p1; have h2 := h.p5; have h3 := h.n7; omega)], rfl⟩ | exact ⟨by rw [dec_t ⟨by omega, by omega, by omega, fun i hi => haw i (by omega)⟩], rfl⟩ | exact ⟨by rw [dec_f (fun h => by obtain ⟨h1, h2, h3, h4, h5, h6, h7⟩ := h.aw k (by omega); first | omega | exact h5 (by assumption))], rfl⟩
            ·
              first | have hb14n := kb_nt hb14 | have hb14n := kb_nf hb14 | have hb14n := hb14
              first | have hb14m := of_decide_eq_true hb14n | have hb14m := of_decide_eq_false hb14n | have hb14m := kb_eq hb14n | have hb14m := kb_ne hb14n | have hb14m := kb_bne hb14n | have hb14m := kb_nbne hb14n | have hb14m := isIx_t hb14n | have hb14m := isIx_f hb14n | have hb14m := inR_t hb14n | have hb14m := inR_f hb14n | have hb14m := dec_tt hb14n | have hb14m := dec_ff hb14n | have hb14m := hb14n
              try simp only [List.get_eq_getElem] at hb14n
              try simp only [List.get_eq_getElem] at hb14m
              refine kops_gd rfl rfl rfl hb14 rfl (opv_fab rfl rfl fa_77_0 (by repeat (first | exact List.Mem.head _ | apply List.Mem.tail))) ?_
              refine kops_gd rfl rfl rfl hb14 rfl (opv_load rfl rfl Try.isAgg3 (by repeat (first | exact List.Mem.head _ | apply List.Mem.tail)) (by first | rfl | exact gx_map (by omega) | exact fill_get (by omega) | (simp; done)) rfl) ?_
              refine kops_gd rfl rfl rfl hb14 rfl (opv_fab rfl rfl fa_77_1 (by repeat (first | exact List.Mem.head _ | apply List.Mem.tail))) ?_
              refine kops_gd rfl rfl rfl hb14 rfl (opv_load rfl rfl Try.isAgg3 (by repeat (first | exact List.Mem.head _ | apply List.Mem.tail)) (by first | rfl | exact gx_map (by omega) | exact fill_get (by omega) | (simp; done)) rfl) ?_
              refine kops_gd rfl rfl rfl hb14 rfl (opv_cmp rfl rfl rfl rfl) ?_
              refine kops_d rfl rfl (opv_pick_f rfl rfl rfl hb14) ?_
              refine kops_nil ?_
              refine kn_then ?_
              refine kwp_cond rfl (fun hc16 => ?_) (fun hc16 => ?_)
              ·
                first | have hc16n := kb_nt hc16 | have hc16n := kb_nf hc16 | have hc16n := hc16
                first | have hc16m := of_decide_eq_true hc16n | have hc16m := of_decide_eq_false hc16n | have hc16m := kb_eq hc16n | have hc16m := kb_ne hc16n | have hc16m := kb_bne hc16n | have hc16m := kb_nbne hc16n | have hc16m := isIx_t hc16n | have hc16m := isIx_f hc16n | have hc16m := inR_t hc16n | have hc16m := inR_f hc16n | have hc16m := dec_tt hc16n | have hc16m := dec_ff hc16n | have hc16m := hc16n
                try simp only [List.get_eq_getElem] at hc16n
                try simp only [List.get_eq_getElem] at hc16m
                refine kwp_seq ?_
                refine kwp_region ?_
                refine kops_d rfl rfl (opv_assign rfl rfl) ?_
                refine kops_nil ?_
                refine kn_then ?_
                refine kwp_ret ?_
                refine kr_then ?_
                refine kr_block ?_
                refine kr_then ?_
                refine kr_then ?_
                refine kr_block ?_
                refine kr_then ?_
                refine kret1 [] rfl rfl ?_ (by (repeat (first | exact Sub.refl _ | exact Sub.nil _ | refine Sub.chunk (by repeat (first | exact Pick.here | apply Pick.there)) (by first | rfl | (simp; done) | (congr 1; omega)) ?_)))
                first | exact ⟨by rw [dec_f (fun h => by have h1 := h.p1; have h2 := h.p5; have h3 := h.n7; omega)], rfl⟩ | exact ⟨by rw [dec_t ⟨by omega, by omega, by omega, fun i hi => haw i (by omega)⟩], rfl⟩ | exact ⟨by rw [dec_f (fun h => by obtain ⟨h1, h2, h3, h4, h5, h6, h7⟩ := h.aw k (by omega); first | omega | exact h5 (by assumption))], rfl⟩
              ·
                first | have hc16n := kb_nt hc16 | have hc16n := kb_nf hc16 | have hc16n := hc16
                first | have hc16m := of_decide_eq_true hc16n | have hc16m := of_decide_eq_false hc16n | have hc16m := kb_eq hc16n | have hc16m := kb_ne hc16n | have hc16m := kb_bne hc16n | have hc16m := kb_nbne hc16n | have hc16m := isIx_t hc16n | have hc16m := isIx_f hc16n | have hc16m := inR_t hc16n | have hc16m := inR_f hc16n | have hc16m := dec_tt hc16n | have hc16m := dec_ff hc16n | have hc16m := hc16n
                try simp only [List.get_eq_getElem] at hc16n
                try simp only [List.get_eq_getElem] at hc16m
                refine kwp_skip ?_
                refine kn_then ?_
                refine kwp_seq ?_
                refine kwp_region ?_
                refine kops_d rfl rfl (opv_fab rfl rfl fa_77_2 (by repeat (first | exact List.Mem.head _ | apply List.Mem.tail))) ?_
                refine kops_d rfl rfl (opv_load rfl rfl Try.isAgg3 (by repeat (first | exact List.Mem.head _ | apply List.Mem.tail)) (by first | rfl | exact gx_map (by omega) | exact fill_get (by omega) | (simp; done)) rfl) ?_
                refine kops_d rfl rfl (opv_cmp rfl rfl rfl rfl) ?_
                refine kops_d rfl rfl (opv_move rfl rfl) ?_
                refine kops_split 50 rfl (fun hb18 => ?_) (fun hb18 => ?_)
                ·
                  first | have hb18n := kb_nt hb18 | have hb18n := kb_nf hb18 | have hb18n := hb18
                  first | have hb18m := of_decide_eq_true hb18n | have hb18m := of_decide_eq_false hb18n | have hb18m := kb_eq hb18n | have hb18m := kb_ne hb18n | have hb18m := kb_bne hb18n | have hb18m := kb_nbne hb18n | have hb18m := isIx_t hb18n | have hb18m := isIx_f hb18n | have hb18m := inR_t hb18n | have hb18m := inR_f hb18n | have hb18m := dec_tt hb18n | have hb18m := dec_ff hb18n | have hb18m := hb18n
                  try simp only [List.get_eq_getElem] at hb18n
                  try simp only [List.get_eq_getElem] at hb18m
                  refine kops_skip rfl rfl rfl hb18 ?_
                  refine kops_skip rfl rfl rfl hb18 ?_
                  refine kops_skip rfl rfl rfl hb18 ?_
                  refine kops_d rfl rfl (opv_pick_t rfl rfl rfl hb18) ?_
                  refine kops_nil ?_
                  refine kn_then ?_
                  refine kwp_cond_t rfl rfl ?_
                  refine kwp_seq ?_
                  refine kwp_region ?_
                  refine kops_d rfl rfl (opv_assign rfl rfl) ?_
                  refine kops_nil ?_
                  refine kn_then ?_
                  refine kwp_ret ?_
                  refine kr_block ?_
                  refine kr_then ?_
                  refine kr_then ?_
                  refine kr_block ?_
                  refine kr_then ?_
                  refine kret1 [] rfl rfl ?_ (by (repeat (first | exact Sub.refl _ | exact Sub.nil _ | refine Sub.chunk (by repeat (first | exact Pick.here | apply Pick.there)) (by first | rfl | (simp; done) | (congr 1; omega)) ?_)))
                  first | exact ⟨by rw [dec_f (fun h => by have h1 := h.p1; have h2 := h.p5; have h3 := h.n7; omega)], rfl⟩ | exact ⟨by rw [dec_t ⟨by omega, by omega, by omega, fun i hi => haw i (by omega)⟩], rfl⟩ | exact ⟨by rw [dec_f (fun h => by obtain ⟨h1, h2, h3, h4, h5, h6, h7⟩ := h.aw k (by omega); first | omega | exact h5 (by assumption))], rfl⟩
                ·
                  first | have hb18n := kb_nt hb18 | have hb18n := kb_nf hb18 | have hb18n := hb18
                  first | have hb18m := of_decide_eq_true hb18n | have hb18m := of_decide_eq_false hb18n | have hb18m := kb_eq hb18n | have hb18m := kb_ne hb18n | have hb18m := kb_bne hb18n | have hb18m := kb_nbne hb18n | have hb18m := isIx_t hb18n | have hb18m := isIx_f hb18n | have hb18m := inR_t hb18n | have hb18m := inR_f hb18n | have hb18m := dec_tt hb18n | have hb18m := dec_ff hb18n | have hb18m := hb18n
                  try simp only [List.get_eq_getElem] at hb18n
                  try simp only [List.get_eq_getElem] at hb18m
                  refine kops_gd rfl rfl rfl hb18 rfl (opv_fab rfl rfl fa_77_2 (by repeat (first | exact List.Mem.head _ | apply List.Mem.tail))) ?_
                  refine kops_gd rfl rfl rfl hb18 rfl (opv_load rfl rfl Try.isAgg3 (by repeat (first | exact List.Mem.head _ | apply List.Mem.tail)) (by first | rfl | exact gx_map (by omega) | exact fill_get (by omega) | (simp; done)) rfl) ?_
                  refine kops_gd rfl rfl rfl hb18 rfl (opv_cmp rfl rfl rfl rfl) ?_
                  refine kops_d rfl rfl (opv_pick_f rfl rfl rfl hb18) ?_
                  refine kops_nil ?_
                  refine kn_then ?_
                  refine kwp_cond rfl (fun hc20 => ?_) (fun hc20 => ?_)
                  ·
                    first | have hc20n := kb_nt hc20 | have hc20n := kb_nf hc20 | have hc20n := hc20
                    first | have hc20m := of_decide_eq_true hc20n | have hc20m := of_decide_eq_false hc20n | have hc20m := kb_eq hc20n | have hc20m := kb_ne hc20n | have hc20m := kb_bne hc20n | have hc20m := kb_nbne hc20n | have hc20m := isIx_t hc20n | have hc20m := isIx_f hc20n | have hc20m := inR_t hc20n | have hc20m := inR_f hc20n | have hc20m := dec_tt hc20n | have hc20m := dec_ff hc20n | have hc20m := hc20n
                    try simp only [List.get_eq_getElem] at hc20n
                    try simp only [List.get_eq_getElem] at hc20m
                    refine kwp_seq ?_
                    refine kwp_region ?_
                    refine kops_d rfl rfl (opv_assign rfl rfl) ?_
                    refine kops_nil ?_
                    refine kn_then ?_
                    refine kwp_ret ?_
                    refine kr_block ?_
                    refine kr_then ?_
                    refine kr_then ?_
                    refine kr_block ?_
                    refine kr_then ?_
                    refine kret1 [] rfl rfl ?_ (by (repeat (first | exact Sub.refl _ | exact Sub.nil _ | refine Sub.chunk (by repeat (first | exact Pick.here | apply Pick.there)) (by first | rfl | (simp; done) | (congr 1; omega)) ?_)))
                    first | exact ⟨by rw [dec_f (fun h => by have h1 := h.p1; have h2 := h.p5; have h3 := h.n7; omega)], rfl⟩ | exact ⟨by rw [dec_t ⟨by omega, by omega, by omega, fun i hi => haw i (by omega)⟩], rfl⟩ | exact ⟨by rw [dec_f (fun h => by obtain ⟨h1, h2, h3, h4, h5, h6, h7⟩ := h.aw k (by omega); first | omega | exact h5 (by assumption))], rfl⟩
                  ·
                    first | have hc20n := kb_nt hc20 | have hc20n := kb_nf hc20 | have hc20n := hc20
                    first | have hc20m := of_decide_eq_true hc20n | have hc20m := of_decide_eq_false hc20n | have hc20m := kb_eq hc20n | have hc20m := kb_ne hc20n | have hc20m := kb_bne hc20n | have hc20m := kb_nbne hc20n | have hc20m := isIx_t hc20n | have hc20m := isIx_f hc20n | have hc20m := inR_t hc20n | have hc20m := inR_f hc20n | have hc20m := dec_tt hc20n | have hc20m := dec_ff hc20n | have hc20m := hc20n
                    try simp only [List.get_eq_getElem] at hc20n
                    try simp only [List.get_eq_getElem] at hc20m
                    refine kwp_skip ?_
                    refine kn_block ?_
                    refine kn_then ?_
                    refine kwp_region ?_
                    refine kops_d rfl rfl (by first | exact opv_add rfl rfl rfl ⟨by omega, by omega⟩ | exact opv_ari rfl rfl rfl rfl) ?_
                    refine kops_d rfl rfl (opv_move rfl rfl) ?_
                    refine kops_nil ?_
                    refine kn_then ?_
                    exact ⟨k + 1, ⟨by (exact ⟨by omega, upto haw ⟨by omega, by omega, by omega, by omega, by assumption, by omega, by omega⟩⟩), by (repeat (first | exact Knows.nil _ | refine Knows.cons2 rfl (by first | rfl | (simp; done) | (congr 1; omega)) ?_)), by (repeat (first | exact Sub.refl _ | exact Sub.nil _ | refine Sub.chunk (by repeat (first | exact Pick.here | apply Pick.there)) (by first | rfl | (simp; done) | (congr 1; omega)) ?_))⟩, by omega⟩
        ·
          first | have hc8n := kb_nt hc8 | have hc8n := kb_nf hc8 | have hc8n := hc8
          first | have hc8m := of_decide_eq_true hc8n | have hc8m := of_decide_eq_false hc8n | have hc8m := kb_eq hc8n | have hc8m := kb_ne hc8n | have hc8m := kb_bne hc8n | have hc8m := kb_nbne hc8n | have hc8m := isIx_t hc8n | have hc8m := isIx_f hc8n | have hc8m := inR_t hc8n | have hc8m := inR_f hc8n | have hc8m := dec_tt hc8n | have hc8m := dec_ff hc8n | have hc8m := hc8n
          try simp only [List.get_eq_getElem] at hc8n
          try simp only [List.get_eq_getElem] at hc8m
          refine kwp_exit ?_
          refine ke_then ?_
          refine ke_then ?_
          refine ke_block ?_
          refine kn_then ?_
          refine kwp_seq ?_
          refine kwp_region ?_
          refine kops_d rfl rfl (opv_assign rfl rfl) ?_
          refine kops_nil ?_
          refine kn_then ?_
          refine kwp_ret ?_
          refine kret1 [] rfl rfl ?_ (by (repeat (first | exact Sub.refl _ | exact Sub.nil _ | refine Sub.chunk (by repeat (first | exact Pick.here | apply Pick.there)) (by first | rfl | (simp; done) | (congr 1; omega)) ?_)))
          first | exact ⟨by rw [dec_f (fun h => by have h1 := h.p1; have h2 := h.p5; have h3 := h.n7; omega)], rfl⟩ | exact ⟨by rw [dec_t ⟨by omega, by omega, by omega, fun i hi => haw i (by omega)⟩], rfl⟩ | exact ⟨by rw [dec_f (fun h => by obtain ⟨h1, h2, h3, h4, h5, h6, h7⟩ := h.aw k (by omega); first | omega | exact h5 (by assumption))], rfl⟩

end Go.Proofs.Ytfgialdcilldiaa
