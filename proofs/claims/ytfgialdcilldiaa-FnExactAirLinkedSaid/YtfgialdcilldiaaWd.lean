/- The walks of some functions, each by its contract; conditions: those that each contract names. -/
import Derived.Test.YtfgialdcilldiaaWc
namespace Go.Proofs.Ytfgialdcilldiaa
open Go
set_option linter.unusedVariables false
set_option linter.unusedSimpArgs false


set_option maxRecDepth 20000 in
theorem c_laws_szIntS (a : Option Addr) (n c : Nat) (left : Int) (hb : 0 ≤ left ∧ left ≤ 1048576) (hn : n ≤ 9223372036854775807) :
    Triple Try.prog 62 [.slice a n c, .int .i64 left] [] [] (fun r ch => ∃ x, r = .int .i64 x ∧ -1 ≤ x ∧ x ≤ left ∧ (x < 0 ∨ x = left - n) ∧ ch = []) := by
  refine triple_start 12 Try.func62 Try.ntmps62 rfl rfl (fun w0 => ?_)
  refine kwp_seq ?_
  refine kwp_region ?_
  refine kops_d rfl rfl (opv_assign rfl rfl) ?_
  refine kops_nil ?_
  refine kn_then ?_
  refine kwp_seq ?_
  refine kwp_region ?_
  refine kops_d rfl rfl (opv_move rfl rfl) ?_
  refine kops_d rfl rfl (opv_move rfl rfl) ?_
  refine kops_d rfl rfl (opv_len rfl rfl rfl Try.runUnderlying39) ?_
  refine kops_d rfl rfl (by first | exact opv_sub rfl rfl rfl ⟨by omega, by omega⟩ | exact opv_ari rfl rfl rfl rfl) ?_
  refine kops_d rfl rfl (opv_assign rfl rfl) ?_
  refine kops_nil ?_
  refine kn_then ?_
  refine kwp_seq ?_
  refine kwp_seq ?_
  refine kwp_region ?_
  refine kops_d rfl rfl (opv_move rfl rfl) ?_
  refine kops_d rfl rfl (opv_cmp rfl rfl rfl rfl) ?_
  refine kops_nil ?_
  refine kn_then ?_
  refine kwp_cond rfl (fun hc2 => ?_) (fun hc2 => ?_)
  ·
    first | have hc2n := kb_nt hc2 | have hc2n := kb_nf hc2 | have hc2n := hc2
    first | have hc2m := of_decide_eq_true hc2n | have hc2m := of_decide_eq_false hc2n | have hc2m := kb_eq hc2n | have hc2m := kb_ne hc2n | have hc2m := kb_bne hc2n | have hc2m := kb_nbne hc2n | have hc2m := isIx_t hc2n | have hc2m := isIx_f hc2n | have hc2m := inR_t hc2n | have hc2m := inR_f hc2n | have hc2m := dec_tt hc2n | have hc2m := dec_ff hc2n | have hc2m := hc2n
    try simp only [List.get_eq_getElem] at hc2n
    try simp only [List.get_eq_getElem] at hc2m
    refine kwp_seq ?_
    refine kwp_region ?_
    refine kops_d rfl rfl (opv_assign rfl rfl) ?_
    refine kops_nil ?_
    refine kn_then ?_
    refine kwp_ret ?_
    refine kr_then ?_
    refine kret1 [] rfl rfl ?_ (by (repeat (first | exact Sub.refl _ | exact Sub.nil _ | refine Sub.chunk (by repeat (first | exact Pick.here | apply Pick.there)) (by first | rfl | (simp; done) | (congr 1; omega)) ?_)))
    exact ⟨_, rfl, by omega, by omega, by omega, rfl⟩
  ·
    first | have hc2n := kb_nt hc2 | have hc2n := kb_nf hc2 | have hc2n := hc2
    first | have hc2m := of_decide_eq_true hc2n | have hc2m := of_decide_eq_false hc2n | have hc2m := kb_eq hc2n | have hc2m := kb_ne hc2n | have hc2m := kb_bne hc2n | have hc2m := kb_nbne hc2n | have hc2m := isIx_t hc2n | have hc2m := isIx_f hc2n | have hc2m := inR_t hc2n | have hc2m := inR_f hc2n | have hc2m := dec_tt hc2n | have hc2m := dec_ff hc2n | have hc2m := hc2n
    try simp only [List.get_eq_getElem] at hc2n
    try simp only [List.get_eq_getElem] at hc2m
    refine kwp_skip ?_
    refine kn_then ?_
    refine kwp_seq ?_
    refine kwp_region ?_
    refine kops_d rfl rfl (opv_move rfl rfl) ?_
    refine kops_d rfl rfl (opv_assign rfl rfl) ?_
    refine kops_nil ?_
    refine kn_then ?_
    refine kwp_ret ?_
    refine kret1 [] rfl rfl ?_ (by (repeat (first | exact Sub.refl _ | exact Sub.nil _ | refine Sub.chunk (by repeat (first | exact Pick.here | apply Pick.there)) (by first | rfl | (simp; done) | (congr 1; omega)) ?_)))
    exact ⟨_, rfl, by omega, by omega, by omega, rfl⟩

set_option maxRecDepth 20000 in
theorem c_laws_szSillS (a : Option Addr) (n c : Nat) (left : Int) (hb : 0 ≤ left ∧ left ≤ 1048576) (hn : n ≤ 9223372036854775807) :
    Triple Try.prog 63 [.slice a n c, .int .i64 left] [] [] (fun r ch => ∃ x, r = .int .i64 x ∧ -1 ≤ x ∧ x ≤ left ∧ (x < 0 ∨ x = left - n) ∧ ch = []) := by
  refine triple_start 12 Try.func63 Try.ntmps63 rfl rfl (fun w0 => ?_)
  refine kwp_seq ?_
  refine kwp_region ?_
  refine kops_d rfl rfl (opv_assign rfl rfl) ?_
  refine kops_nil ?_
  refine kn_then ?_
  refine kwp_seq ?_
  refine kwp_region ?_
  refine kops_d rfl rfl (opv_move rfl rfl) ?_
  refine kops_d rfl rfl (opv_move rfl rfl) ?_
  refine kops_d rfl rfl (opv_len rfl rfl rfl Try.runUnderlying40) ?_
  refine kops_d rfl rfl (by first | exact opv_sub rfl rfl rfl ⟨by omega, by omega⟩ | exact opv_ari rfl rfl rfl rfl) ?_
  refine kops_d rfl rfl (opv_assign rfl rfl) ?_
  refine kops_nil ?_
  refine kn_then ?_
  refine kwp_seq ?_
  refine kwp_seq ?_
  refine kwp_region ?_
  refine kops_d rfl rfl (opv_move rfl rfl) ?_
  refine kops_d rfl rfl (opv_cmp rfl rfl rfl rfl) ?_
  refine kops_nil ?_
  refine kn_then ?_
  refine kwp_cond rfl (fun hc2 => ?_) (fun hc2 => ?_)
  ·
    first | have hc2n := kb_nt hc2 | have hc2n := kb_nf hc2 | have hc2n := hc2
    first | have hc2m := of_decide_eq_true hc2n | have hc2m := of_decide_eq_false hc2n | have hc2m := kb_eq hc2n | have hc2m := kb_ne hc2n | have hc2m := kb_bne hc2n | have hc2m := kb_nbne hc2n | have hc2m := isIx_t hc2n | have hc2m := isIx_f hc2n | have hc2m := inR_t hc2n | have hc2m := inR_f hc2n | have hc2m := dec_tt hc2n | have hc2m := dec_ff hc2n | have hc2m := hc2n
    try simp only [List.get_eq_getElem] at hc2n
    try simp only [List.get_eq_getElem] at hc2m
    refine kwp_seq ?_
    refine kwp_region ?_
    refine kops_d rfl rfl (opv_assign rfl rfl) ?_
    refine kops_nil ?_
    refine kn_then ?_
    refine kwp_ret ?_
    refine kr_then ?_
    refine kret1 [] rfl rfl ?_ (by (repeat (first | exact Sub.refl _ | exact Sub.nil _ | refine Sub.chunk (by repeat (first | exact Pick.here | apply Pick.there)) (by first | rfl | (simp; done) | (congr 1; omega)) ?_)))
    exact ⟨_, rfl, by omega, by omega, by omega, rfl⟩
  ·
    first | have hc2n := kb_nt hc2 | have hc2n := kb_nf hc2 | have hc2n := hc2
    first | have hc2m := of_decide_eq_true hc2n | have hc2m := of_decide_eq_false hc2n | have hc2m := kb_eq hc2n | have hc2m := kb_ne hc2n | have hc2m := kb_bne hc2n | have hc2m := kb_nbne hc2n | have hc2m := isIx_t hc2n | have hc2m := isIx_f hc2n | have hc2m := inR_t hc2n | have hc2m := inR_f hc2n | have hc2m := dec_tt hc2n | have hc2m := dec_ff hc2n | have hc2m := hc2n
    try simp only [List.get_eq_getElem] at hc2n
    try simp only [List.get_eq_getElem] at hc2m
    refine kwp_skip ?_
    refine kn_then ?_
    refine kwp_seq ?_
    refine kwp_region ?_
    refine kops_d rfl rfl (opv_move rfl rfl) ?_
    refine kops_d rfl rfl (opv_assign rfl rfl) ?_
    refine kops_nil ?_
    refine kn_then ?_
    refine kwp_ret ?_
    refine kret1 [] rfl rfl ?_ (by (repeat (first | exact Sub.refl _ | exact Sub.nil _ | refine Sub.chunk (by repeat (first | exact Pick.here | apply Pick.there)) (by first | rfl | (simp; done) | (congr 1; omega)) ?_)))
    exact ⟨_, rfl, by omega, by omega, by omega, rfl⟩

set_option maxRecDepth 20000 in
theorem c_laws_toSill (v : Sill) :
    Triple Try.prog 83 [.agg #[.int .i64 v.a, .int .i64 v.b, .int .i64 v.high]] [] [] (fun r ch => r = .agg #[.int .i64 v.a, .int .i64 v.b, .int .i64 v.high] ∧ ch = []) := by
  refine triple_start 14 Try.func83 Try.ntmps83 rfl rfl (fun w0 => ?_)
  refine kwp_seq ?_
  refine kwp_region ?_
  refine kops_step rfl (opk_box' (e := [_, _, _]) 3 rfl rfl rfl rfl (by decide) (fun p1 => ?_))
  refine kops_step rfl (opk_alloc' (e := [_, _, _]) 3 rfl Try.zeroValue83 rfl rfl (by decide) (fun p2 => ?_))
  refine kops_nil ?_
  refine kn_then ?_
  refine kwp_seq ?_
  refine kwp_region ?_
  refine kops_step rfl (opk_alloc' (e := [_, _, _]) 3 rfl Try.zeroValue83 rfl rfl (by decide) (fun p3 => ?_))
  refine kops_nil ?_
  refine kn_then ?_
  refine kwp_seq ?_
  refine kwp_region ?_
  refine kops_d rfl rfl (opv_fab rfl rfl fa_106_0 (by repeat (first | exact List.Mem.head _ | apply List.Mem.tail))) ?_
  refine kops_d rfl rfl (opv_load rfl rfl Try.isAgg3 (by repeat (first | exact List.Mem.head _ | apply List.Mem.tail)) (by first | rfl | exact get_map (by omega) | exact fill_get (by omega) | (simp; done)) rfl) ?_
  refine kops_d rfl rfl (opv_fab rfl rfl fa_83_0 (by repeat (first | exact List.Mem.head _ | apply List.Mem.tail))) ?_
  refine kops_step rfl (opk_store rfl rfl rfl Try.sizeOf3 rfl (by repeat (first | exact Upd.here | apply Upd.there)) (by first | rfl | exact get_map (by omega) | exact fill_get (by omega) | (simp; done)) (by decide) ?_)
  refine kops_nil ?_
  refine kn_then ?_
  refine kwp_seq ?_
  refine kwp_region ?_
  refine kops_d rfl rfl (opv_fab rfl rfl fa_106_1 (by repeat (first | exact List.Mem.head _ | apply List.Mem.tail))) ?_
  refine kops_d rfl rfl (opv_load rfl rfl Try.isAgg3 (by repeat (first | exact List.Mem.head _ | apply List.Mem.tail)) (by first | rfl | exact get_map (by omega) | exact fill_get (by omega) | (simp; done)) rfl) ?_
  refine kops_d rfl rfl (opv_fab rfl rfl fa_83_1 (by repeat (first | exact List.Mem.head _ | apply List.Mem.tail))) ?_
  refine kops_step rfl (opk_store rfl rfl rfl Try.sizeOf3 rfl (by repeat (first | exact Upd.here | apply Upd.there)) (by first | rfl | exact get_map (by omega) | exact fill_get (by omega) | (simp; done)) (by decide) ?_)
  refine kops_nil ?_
  refine kn_then ?_
  refine kwp_seq ?_
  refine kwp_region ?_
  refine kops_d rfl rfl (opv_fab rfl rfl fa_106_2 (by repeat (first | exact List.Mem.head _ | apply List.Mem.tail))) ?_
  refine kops_d rfl rfl (opv_load rfl rfl Try.isAgg3 (by repeat (first | exact List.Mem.head _ | apply List.Mem.tail)) (by first | rfl | exact get_map (by omega) | exact fill_get (by omega) | (simp; done)) rfl) ?_
  refine kops_d rfl rfl (opv_fab rfl rfl fa_83_2 (by repeat (first | exact List.Mem.head _ | apply List.Mem.tail))) ?_
  refine kops_step rfl (opk_store rfl rfl rfl Try.sizeOf3 rfl (by repeat (first | exact Upd.here | apply Upd.there)) (by first | rfl | exact get_map (by omega) | exact fill_get (by omega) | (simp; done)) (by decide) ?_)
  refine kops_nil ?_
  refine kn_then ?_
  refine kwp_seq ?_
  refine kwp_region ?_
  refine kops_d rfl rfl (opv_load_box rfl rfl Try.isAgg83 Try.sizeOf83 (by repeat (first | exact List.Mem.head _ | apply List.Mem.tail))) ?_
  refine kops_step rfl (opk_store_box (e' := [_, _, _]) rfl rfl rfl Try.sizeOf83 rfl (by first | exact one_aw | exact one_int | exact one_sill | decide | (simp [Value.oneCell']; done) | (intro x hx; simp at hx; rcases hx with rfl | rfl | rfl | rfl | rfl <;> rfl)) rfl (by repeat (first | exact Upd.here | apply Upd.there)) ?_)
  refine kops_nil ?_
  refine kn_then ?_
  refine kwp_ret ?_
  refine kretc [] rfl rfl Try.isAgg83 Try.sizeOf83 (by repeat (first | exact List.Mem.head _ | apply List.Mem.tail)) ?_ (by (repeat (first | exact Sub.refl _ | exact Sub.nil _ | refine Sub.chunk (by repeat (first | exact Pick.here | apply Pick.there)) (by first | rfl | (simp; done) | (congr 1; omega)) ?_)))
  exact ⟨rfl, rfl⟩

set_option maxRecDepth 20000 in
theorem c_laws_toSillS (a : Option Addr) (n c : Nat) (l : List Sill) (hb : n ≤ 1048576) :
    Triple Try.prog 64 [.slice a n c] [⟨.slice a n c, 3, l.map encSill⟩] [] (fun r ch => ∃ a' c', r = .slice a' n c' ∧ ch = [⟨.slice a' n c', 3, l.map encSill⟩]) := by
  refine triple_start 23 Try.func64 Try.ntmps64 rfl rfl (fun w0 => ?_)
  refine kwp_len (List.Mem.head _) (fun hn => ?_)
  simp only [List.length_map] at hn
  subst hn
  refine kwp_seq ?_
  refine kwp_region ?_
  refine kops_d rfl rfl (opv_assign rfl rfl) ?_
  refine kops_nil ?_
  refine kn_then ?_
  refine kwp_seq ?_
  refine kwp_region ?_
  refine kops_d rfl rfl (opv_move rfl rfl) ?_
  refine kops_d rfl rfl (opv_len rfl rfl rfl Try.runUnderlying40) ?_
  refine kops_step rfl (opk_make (zs := [(.int .i64 0), (.int .i64 0), (.int .i64 0)]) rfl rfl rfl Try.underlying45 Try.type83 rfl rfl rfl rfl (by decide) (by omega) (show ((24 : Nat) : Int) * _ ≤ 281474976710656 by omega) (by omega) (fun a7 => ?_))
  refine kops_d rfl rfl (opv_assign rfl rfl) ?_
  refine kops_nil ?_
  refine kn_then ?_
  refine kwp_seq ?_
  refine kwp_seq ?_
  refine kwp_region ?_
  refine kops_d rfl rfl (opv_assign rfl rfl) ?_
  refine kops_nil ?_
  refine kn_then ?_
  refine kwp_block ?_
  refine kwp_loop1 (inv := [(0, _), (2, _), (3, _)]) (ic := [])
    (fun (k : Nat) => [(4, .int .i64 k)])
    (fun (k : Nat) => [⟨.slice (some a7) l.length l.length, 3, fillL encSill [.int .i64 0, .int .i64 0, .int .i64 0] l k⟩])
    (fun (k : Nat) => k ≤ l.length)
    (fun (k : Nat) => l.length - k)
    ⟨0, ⟨by first | trivial | omega | (refine ⟨?_, ?_⟩ <;> omega) | (simp; done), by (repeat (first | exact Knows.nil _ | refine Knows.cons2 rfl (by first | rfl | exact fill_zero _ _ _) ?_)), by (repeat (first | exact Sub.refl _ | exact Sub.nil _ | refine Sub.chunk (by repeat (first | exact Pick.here | apply Pick.there)) (by first | rfl | exact fill_zero _ _ _) ?_))⟩⟩ (fun k hp => ?_)
  refine kwp_seq ?_
  refine kwp_seq ?_
  refine kwp_region ?_
  refine kops_d rfl rfl (opv_move rfl rfl) ?_
  refine kops_d rfl rfl (opv_move rfl rfl) ?_
  refine kops_d rfl rfl (opv_len rfl rfl rfl Try.runUnderlying40) ?_
  refine kops_d rfl rfl (opv_cmp rfl rfl rfl rfl) ?_
  refine kops_nil ?_
  refine kn_then ?_
  refine kwp_cond rfl (fun hc2 => ?_) (fun hc2 => ?_)
  ·
    first | have hc2n := kb_nt hc2 | have hc2n := kb_nf hc2 | have hc2n := hc2
    first | have hc2m := of_decide_eq_true hc2n | have hc2m := of_decide_eq_false hc2n | have hc2m := kb_eq hc2n | have hc2m := kb_ne hc2n | have hc2m := kb_bne hc2n | have hc2m := kb_nbne hc2n | have hc2m := isIx_t hc2n | have hc2m := isIx_f hc2n | have hc2m := inR_t hc2n | have hc2m := inR_f hc2n | have hc2m := dec_tt hc2n | have hc2m := dec_ff hc2n | have hc2m := hc2n
    try simp only [List.get_eq_getElem] at hc2n
    try simp only [List.get_eq_getElem] at hc2m
    refine kwp_skip ?_
    refine kn_then ?_
    refine kwp_seq ?_
    refine kwp_block ?_
    refine kwp_region ?_
    refine kops_d rfl rfl (opv_move rfl rfl) ?_
    refine kops_d rfl rfl (opv_move rfl rfl) ?_
    refine kops_d rfl rfl (opv_move rfl rfl) ?_
    refine kops_d rfl rfl (opv_move rfl rfl) ?_
    refine kops_d rfl rfl (opv_ia rfl rfl rfl Try.runUnderlying40 Try.sizeOf106 (by repeat (first | exact List.Mem.head _ | apply List.Mem.tail)) (by first | rfl | exact (Int.toNat_of_nonneg (by omega)).symm) (by first | omega | (simp only [List.length_map]; omega) | (rw [fill_len (by omega)]; omega) | (simp; omega) | (simp; done))) ?_
    refine kops_d rfl rfl (opv_load_agg rfl rfl Try.isAgg106 Try.sizeOf106 (by repeat (first | exact List.Mem.head _ | apply List.Mem.tail)) (by first | rfl | exact get_map (by omega) | exact fill_get (by omega) | (simp; done))) ?_
    refine kops_step rfl (opk_call rfl Try.call83 rfl (c_laws_toSill ⟨_, _, _⟩) ((perm_nil _)) ((Views.nil _)) ?_)
    rintro _ _ ⟨rfl, rfl⟩
    refine kops_d rfl rfl (opv_ia rfl rfl rfl Try.runUnderlying45 Try.sizeOf83 (by repeat (first | exact List.Mem.head _ | apply List.Mem.tail)) (by first | rfl | exact (Int.toNat_of_nonneg (by omega)).symm) (by first | omega | (simp only [List.length_map]; omega) | (rw [fill_len (by omega)]; omega) | (simp; omega) | (simp; done))) ?_
    refine kops_step rfl (opk_store_agg (e' := [_, _, _]) rfl rfl rfl Try.sizeOf83 rfl (by first | exact one_aw | exact one_int | exact one_sill | decide | (simp [Value.oneCell']; done) | (intro x hx; simp at hx; rcases hx with rfl | rfl | rfl | rfl | rfl <;> rfl)) rfl (by repeat (first | exact Upd.here | apply Upd.there)) (by first | rfl | exact get_map (by omega) | exact fill_get (by omega) | (simp; done)) ?_)
    refine kops_nil ?_
    refine kn_block ?_
    refine kn_then ?_
    refine kwp_region ?_
    refine kops_d rfl rfl (opv_move rfl rfl) ?_
    refine kops_d rfl rfl (by first | exact opv_add rfl rfl rfl ⟨by omega, by omega⟩ | exact opv_ari rfl rfl rfl rfl) ?_
    refine kops_d rfl rfl (opv_assign rfl rfl) ?_
    refine kops_nil ?_
    refine kn_then ?_
    exact ⟨k + 1, ⟨by first | trivial | omega | (refine ⟨?_, ?_⟩ <;> omega) | (simp; done), by (repeat (first | exact Knows.nil _ | refine Knows.cons2 rfl (by first | rfl | exact fill_set (by omega)) ?_)), by (repeat (first | exact Sub.refl _ | exact Sub.nil _ | refine Sub.chunk (by repeat (first | exact Pick.here | apply Pick.there)) (by first | rfl | exact fill_set (by omega)) ?_))⟩, by omega⟩
  ·
    first | have hc2n := kb_nt hc2 | have hc2n := kb_nf hc2 | have hc2n := hc2
    first | have hc2m := of_decide_eq_true hc2n | have hc2m := of_decide_eq_false hc2n | have hc2m := kb_eq hc2n | have hc2m := kb_ne hc2n | have hc2m := kb_bne hc2n | have hc2m := kb_nbne hc2n | have hc2m := isIx_t hc2n | have hc2m := isIx_f hc2n | have hc2m := inR_t hc2n | have hc2m := inR_f hc2n | have hc2m := dec_tt hc2n | have hc2m := dec_ff hc2n | have hc2m := hc2n
    try simp only [List.get_eq_getElem] at hc2n
    try simp only [List.get_eq_getElem] at hc2m
    refine kwp_exit ?_
    refine ke_then ?_
    refine ke_then ?_
    refine ke_block ?_
    refine kn_then ?_
    refine kwp_seq ?_
    refine kwp_region ?_
    refine kops_d rfl rfl (opv_move rfl rfl) ?_
    refine kops_d rfl rfl (opv_assign rfl rfl) ?_
    refine kops_nil ?_
    refine kn_then ?_
    refine kwp_ret ?_
    refine kret1 [⟨.slice (some a7) l.length l.length, 3, l.map encSill⟩] rfl rfl ?_ (by (refine Sub.chunk (by repeat (first | exact Pick.here | apply Pick.there)) (by exact fill_end (by omega)) (Sub.nil _)))
    exact ⟨_, _, rfl, rfl⟩

set_option maxRecDepth 20000 in
theorem c_laws_toIntS (a : Option Addr) (n c : Nat) (l : List Int) (hb : n ≤ 1048576) :
    Triple Try.prog 29 [.slice a n c] [⟨.slice a n c, 1, l.map encI⟩] [] (fun r ch => ∃ a' c', r = .slice a' n c' ∧ ch = [⟨.slice a' n c', 1, l.map encI⟩]) := by
  refine triple_start 22 Try.func29 Try.ntmps29 rfl rfl (fun w0 => ?_)
  refine kwp_len (List.Mem.head _) (fun hn => ?_)
  simp only [List.length_map] at hn
  subst hn
  refine kwp_seq ?_
  refine kwp_region ?_
  refine kops_d rfl rfl (opv_assign rfl rfl) ?_
  refine kops_nil ?_
  refine kn_then ?_
  refine kwp_seq ?_
  refine kwp_region ?_
  refine kops_d rfl rfl (opv_move rfl rfl) ?_
  refine kops_d rfl rfl (opv_len rfl rfl rfl Try.runUnderlying39) ?_
  refine kops_step rfl (opk_make (zs := [(.int .i64 0)]) rfl rfl rfl Try.underlying39 Try.type3 rfl rfl rfl rfl (by decide) (by omega) (show ((8 : Nat) : Int) * _ ≤ 281474976710656 by omega) (by omega) (fun a7 => ?_))
  refine kops_d rfl rfl (opv_assign rfl rfl) ?_
  refine kops_nil ?_
  refine kn_then ?_
  refine kwp_seq ?_
  refine kwp_seq ?_
  refine kwp_region ?_
  refine kops_d rfl rfl (opv_assign rfl rfl) ?_
  refine kops_nil ?_
  refine kn_then ?_
  refine kwp_block ?_
  refine kwp_loop1 (inv := [(0, _), (2, _), (3, _)]) (ic := [])
    (fun (k : Nat) => [(4, .int .i64 k)])
    (fun (k : Nat) => [⟨.slice (some a7) l.length l.length, 1, fillL encI [.int .i64 0] l k⟩])
    (fun (k : Nat) => k ≤ l.length)
    (fun (k : Nat) => l.length - k)
    ⟨0, ⟨by first | trivial | omega | (refine ⟨?_, ?_⟩ <;> omega) | (simp; done), by (repeat (first | exact Knows.nil _ | refine Knows.cons2 rfl (by first | rfl | exact fill_zero _ _ _) ?_)), by (repeat (first | exact Sub.refl _ | exact Sub.nil _ | refine Sub.chunk (by repeat (first | exact Pick.here | apply Pick.there)) (by first | rfl | exact fill_zero _ _ _) ?_))⟩⟩ (fun k hp => ?_)
  refine kwp_seq ?_
  refine kwp_seq ?_
  refine kwp_region ?_
  refine kops_d rfl rfl (opv_move rfl rfl) ?_
  refine kops_d rfl rfl (opv_move rfl rfl) ?_
  refine kops_d rfl rfl (opv_len rfl rfl rfl Try.runUnderlying39) ?_
  refine kops_d rfl rfl (opv_cmp rfl rfl rfl rfl) ?_
  refine kops_nil ?_
  refine kn_then ?_
  refine kwp_cond rfl (fun hc2 => ?_) (fun hc2 => ?_)
  ·
    first | have hc2n := kb_nt hc2 | have hc2n := kb_nf hc2 | have hc2n := hc2
    first | have hc2m := of_decide_eq_true hc2n | have hc2m := of_decide_eq_false hc2n | have hc2m := kb_eq hc2n | have hc2m := kb_ne hc2n | have hc2m := kb_bne hc2n | have hc2m := kb_nbne hc2n | have hc2m := isIx_t hc2n | have hc2m := isIx_f hc2n | have hc2m := inR_t hc2n | have hc2m := inR_f hc2n | have hc2m := dec_tt hc2n | have hc2m := dec_ff hc2n | have hc2m := hc2n
    try simp only [List.get_eq_getElem] at hc2n
    try simp only [List.get_eq_getElem] at hc2m
    refine kwp_skip ?_
    refine kn_then ?_
    refine kwp_seq ?_
    refine kwp_block ?_
    refine kwp_region ?_
    refine kops_d rfl rfl (opv_move rfl rfl) ?_
    refine kops_d rfl rfl (opv_move rfl rfl) ?_
    refine kops_d rfl rfl (opv_move rfl rfl) ?_
    refine kops_d rfl rfl (opv_move rfl rfl) ?_
    refine kops_d rfl rfl (opv_ia rfl rfl rfl Try.runUnderlying39 Try.sizeOf3 (by repeat (first | exact List.Mem.head _ | apply List.Mem.tail)) (by first | rfl | exact (Int.toNat_of_nonneg (by omega)).symm) (by first | omega | (simp only [List.length_map]; omega) | (rw [fill_len (by omega)]; omega) | (simp; omega) | (simp; done))) ?_
    refine kops_d rfl rfl (opv_load rfl rfl Try.isAgg3 (by repeat (first | exact List.Mem.head _ | apply List.Mem.tail)) (by first | rfl | exact get_map (by omega) | exact fill_get (by omega) | (simp; done)) rfl) ?_
    refine kops_d rfl rfl (opv_ia rfl rfl rfl Try.runUnderlying39 Try.sizeOf3 (by repeat (first | exact List.Mem.head _ | apply List.Mem.tail)) (by first | rfl | exact (Int.toNat_of_nonneg (by omega)).symm) (by first | omega | (simp only [List.length_map]; omega) | (rw [fill_len (by omega)]; omega) | (simp; omega) | (simp; done))) ?_
    refine kops_step rfl (opk_store rfl rfl rfl Try.sizeOf3 rfl (by repeat (first | exact Upd.here | apply Upd.there)) (by first | rfl | exact get_map (by omega) | exact fill_get (by omega) | (simp; done)) (by decide) ?_)
    refine kops_nil ?_
    refine kn_block ?_
    refine kn_then ?_
    refine kwp_region ?_
    refine kops_d rfl rfl (opv_move rfl rfl) ?_
    refine kops_d rfl rfl (by first | exact opv_add rfl rfl rfl ⟨by omega, by omega⟩ | exact opv_ari rfl rfl rfl rfl) ?_
    refine kops_d rfl rfl (opv_assign rfl rfl) ?_
    refine kops_nil ?_
    refine kn_then ?_
    exact ⟨k + 1, ⟨by first | trivial | omega | (refine ⟨?_, ?_⟩ <;> omega) | (simp; done), by (repeat (first | exact Knows.nil _ | refine Knows.cons2 rfl (by first | rfl | exact fill_set (by omega)) ?_)), by (repeat (first | exact Sub.refl _ | exact Sub.nil _ | refine Sub.chunk (by repeat (first | exact Pick.here | apply Pick.there)) (by first | rfl | exact fill_set (by omega)) ?_))⟩, by omega⟩
  ·
    first | have hc2n := kb_nt hc2 | have hc2n := kb_nf hc2 | have hc2n := hc2
    first | have hc2m := of_decide_eq_true hc2n | have hc2m := of_decide_eq_false hc2n | have hc2m := kb_eq hc2n | have hc2m := kb_ne hc2n | have hc2m := kb_bne hc2n | have hc2m := kb_nbne hc2n | have hc2m := isIx_t hc2n | have hc2m := isIx_f hc2n | have hc2m := inR_t hc2n | have hc2m := inR_f hc2n | have hc2m := dec_tt hc2n | have hc2m := dec_ff hc2n | have hc2m := hc2n
    try simp only [List.get_eq_getElem] at hc2n
    try simp only [List.get_eq_getElem] at hc2m
    refine kwp_exit ?_
    refine ke_then ?_
    refine ke_then ?_
    refine ke_block ?_
    refine kn_then ?_
    refine kwp_seq ?_
    refine kwp_region ?_
    refine kops_d rfl rfl (opv_move rfl rfl) ?_
    refine kops_d rfl rfl (opv_assign rfl rfl) ?_
    refine kops_nil ?_
    refine kn_then ?_
    refine kwp_ret ?_
    refine kret1 [⟨.slice (some a7) l.length l.length, 1, l.map encI⟩] rfl rfl ?_ (by (refine Sub.chunk (by repeat (first | exact Pick.here | apply Pick.there)) (by exact fill_end (by omega)) (Sub.nil _)))
    exact ⟨_, _, rfl, rfl⟩

set_option maxRecDepth 20000 in
theorem c_laws_eqSill (x y : Sill) :
    Triple Try.prog 84 [.agg #[.int .i64 x.a, .int .i64 x.b, .int .i64 x.high], .agg #[.int .i64 y.a, .int .i64 y.b, .int .i64 y.high]] [] [] (fun r ch => r = .bool (decide (x = y)) ∧ ch = []) := by
  refine triple_start 20 Try.func84 Try.ntmps84 rfl rfl (fun w0 => ?_)
  refine kwp_seq ?_
  refine kwp_region ?_
  refine kops_step rfl (opk_box' (e := [_, _, _]) 3 rfl rfl rfl rfl (by decide) (fun p2 => ?_))
  refine kops_step rfl (opk_box' (e := [_, _, _]) 3 rfl rfl rfl rfl (by decide) (fun p3 => ?_))
  refine kops_d rfl rfl (opv_assign rfl rfl) ?_
  refine kops_nil ?_
  refine kn_then ?_
  refine kwp_seq ?_
  refine kwp_seq ?_
  refine kwp_region ?_
  refine kops_d rfl rfl (opv_fab rfl rfl fa_83_0 (by repeat (first | exact List.Mem.head _ | apply List.Mem.tail))) ?_
  refine kops_d rfl rfl (opv_load rfl rfl Try.isAgg3 (by repeat (first | exact List.Mem.head _ | apply List.Mem.tail)) (by first | rfl | exact get_map (by omega) | exact fill_get (by omega) | (simp; done)) rfl) ?_
  refine kops_d rfl rfl (opv_fab rfl rfl fa_83_0 (by repeat (first | exact List.Mem.head _ | apply List.Mem.tail))) ?_
  refine kops_d rfl rfl (opv_load rfl rfl Try.isAgg3 (by repeat (first | exact List.Mem.head _ | apply List.Mem.tail)) (by first | rfl | exact get_map (by omega) | exact fill_get (by omega) | (simp; done)) rfl) ?_
  refine kops_d rfl rfl (opv_cmp rfl rfl rfl rfl) ?_
  refine kops_nil ?_
  refine kn_then ?_
  refine kwp_cond rfl (fun hc2 => ?_) (fun hc2 => ?_)
  ·
    first | have hc2n := kb_nt hc2 | have hc2n := kb_nf hc2 | have hc2n := hc2
    first | have hc2m := of_decide_eq_true hc2n | have hc2m := of_decide_eq_false hc2n | have hc2m := kb_eq hc2n | have hc2m := kb_ne hc2n | have hc2m := kb_bne hc2n | have hc2m := kb_nbne hc2n | have hc2m := isIx_t hc2n | have hc2m := isIx_f hc2n | have hc2m := inR_t hc2n | have hc2m := inR_f hc2n | have hc2m := dec_tt hc2n | have hc2m := dec_ff hc2n | have hc2m := hc2n
    try simp only [List.get_eq_getElem] at hc2n
    try simp only [List.get_eq_getElem] at hc2m
    refine kwp_seq ?_
    refine kwp_region ?_
    refine kops_d rfl rfl (opv_assign rfl rfl) ?_
    refine kops_nil ?_
    refine kn_then ?_
    refine kwp_ret ?_
    refine kr_then ?_
    refine kret1 [] rfl rfl ?_ (by (repeat (first | exact Sub.refl _ | exact Sub.nil _ | refine Sub.chunk (by repeat (first | exact Pick.here | apply Pick.there)) (by first | rfl | (simp; done) | (congr 1; omega)) ?_)))
    exact ⟨by obtain ⟨x1, x2, x3⟩ := x; obtain ⟨y1, y2, y3⟩ := y; simp_all, rfl⟩
  ·
    first | have hc2n := kb_nt hc2 | have hc2n := kb_nf hc2 | have hc2n := hc2
    first | have hc2m := of_decide_eq_true hc2n | have hc2m := of_decide_eq_false hc2n | have hc2m := kb_eq hc2n | have hc2m := kb_ne hc2n | have hc2m := kb_bne hc2n | have hc2m := kb_nbne hc2n | have hc2m := isIx_t hc2n | have hc2m := isIx_f hc2n | have hc2m := inR_t hc2n | have hc2m := inR_f hc2n | have hc2m := dec_tt hc2n | have hc2m := dec_ff hc2n | have hc2m := hc2n
    try simp only [List.get_eq_getElem] at hc2n
    try simp only [List.get_eq_getElem] at hc2m
    refine kwp_skip ?_
    refine kn_then ?_
    refine kwp_seq ?_
    refine kwp_seq ?_
    refine kwp_region ?_
    refine kops_d rfl rfl (opv_fab rfl rfl fa_83_1 (by repeat (first | exact List.Mem.head _ | apply List.Mem.tail))) ?_
    refine kops_d rfl rfl (opv_load rfl rfl Try.isAgg3 (by repeat (first | exact List.Mem.head _ | apply List.Mem.tail)) (by first | rfl | exact get_map (by omega) | exact fill_get (by omega) | (simp; done)) rfl) ?_
    refine kops_d rfl rfl (opv_fab rfl rfl fa_83_1 (by repeat (first | exact List.Mem.head _ | apply List.Mem.tail))) ?_
    refine kops_d rfl rfl (opv_load rfl rfl Try.isAgg3 (by repeat (first | exact List.Mem.head _ | apply List.Mem.tail)) (by first | rfl | exact get_map (by omega) | exact fill_get (by omega) | (simp; done)) rfl) ?_
    refine kops_d rfl rfl (opv_cmp rfl rfl rfl rfl) ?_
    refine kops_nil ?_
    refine kn_then ?_
    refine kwp_cond rfl (fun hc4 => ?_) (fun hc4 => ?_)
    ·
      first | have hc4n := kb_nt hc4 | have hc4n := kb_nf hc4 | have hc4n := hc4
      first | have hc4m := of_decide_eq_true hc4n | have hc4m := of_decide_eq_false hc4n | have hc4m := kb_eq hc4n | have hc4m := kb_ne hc4n | have hc4m := kb_bne hc4n | have hc4m := kb_nbne hc4n | have hc4m := isIx_t hc4n | have hc4m := isIx_f hc4n | have hc4m := inR_t hc4n | have hc4m := inR_f hc4n | have hc4m := dec_tt hc4n | have hc4m := dec_ff hc4n | have hc4m := hc4n
      try simp only [List.get_eq_getElem] at hc4n
      try simp only [List.get_eq_getElem] at hc4m
      refine kwp_seq ?_
      refine kwp_region ?_
      refine kops_d rfl rfl (opv_assign rfl rfl) ?_
      refine kops_nil ?_
      refine kn_then ?_
      refine kwp_ret ?_
      refine kr_then ?_
      refine kret1 [] rfl rfl ?_ (by (repeat (first | exact Sub.refl _ | exact Sub.nil _ | refine Sub.chunk (by repeat (first | exact Pick.here | apply Pick.there)) (by first | rfl | (simp; done) | (congr 1; omega)) ?_)))
      exact ⟨by obtain ⟨x1, x2, x3⟩ := x; obtain ⟨y1, y2, y3⟩ := y; simp_all, rfl⟩
    ·
      first | have hc4n := kb_nt hc4 | have hc4n := kb_nf hc4 | have hc4n := hc4
      first | have hc4m := of_decide_eq_true hc4n | have hc4m := of_decide_eq_false hc4n | have hc4m := kb_eq hc4n | have hc4m := kb_ne hc4n | have hc4m := kb_bne hc4n | have hc4m := kb_nbne hc4n | have hc4m := isIx_t hc4n | have hc4m := isIx_f hc4n | have hc4m := inR_t hc4n | have hc4m := inR_f hc4n | have hc4m := dec_tt hc4n | have hc4m := dec_ff hc4n | have hc4m := hc4n
      try simp only [List.get_eq_getElem] at hc4n
      try simp only [List.get_eq_getElem] at hc4m
      refine kwp_skip ?_
      refine kn_then ?_
      refine kwp_seq ?_
      refine kwp_seq ?_
      refine kwp_region ?_
      refine kops_d rfl rfl (opv_fab rfl rfl fa_83_2 (by repeat (first | exact List.Mem.head _ | apply List.Mem.tail))) ?_
      refine kops_d rfl rfl (opv_load rfl rfl Try.isAgg3 (by repeat (first | exact List.Mem.head _ | apply List.Mem.tail)) (by first | rfl | exact get_map (by omega) | exact fill_get (by omega) | (simp; done)) rfl) ?_
      refine kops_d rfl rfl (opv_fab rfl rfl fa_83_2 (by repeat (first | exact List.Mem.head _ | apply List.Mem.tail))) ?_
      refine kops_d rfl rfl (opv_load rfl rfl Try.isAgg3 (by repeat (first | exact List.Mem.head _ | apply List.Mem.tail)) (by first | rfl | exact get_map (by omega) | exact fill_get (by omega) | (simp; done)) rfl) ?_
      refine kops_d rfl rfl (opv_cmp rfl rfl rfl rfl) ?_
      refine kops_nil ?_
      refine kn_then ?_
      refine kwp_cond rfl (fun hc6 => ?_) (fun hc6 => ?_)
      ·
        first | have hc6n := kb_nt hc6 | have hc6n := kb_nf hc6 | have hc6n := hc6
        first | have hc6m := of_decide_eq_true hc6n | have hc6m := of_decide_eq_false hc6n | have hc6m := kb_eq hc6n | have hc6m := kb_ne hc6n | have hc6m := kb_bne hc6n | have hc6m := kb_nbne hc6n | have hc6m := isIx_t hc6n | have hc6m := isIx_f hc6n | have hc6m := inR_t hc6n | have hc6m := inR_f hc6n | have hc6m := dec_tt hc6n | have hc6m := dec_ff hc6n | have hc6m := hc6n
        try simp only [List.get_eq_getElem] at hc6n
        try simp only [List.get_eq_getElem] at hc6m
        refine kwp_seq ?_
        refine kwp_region ?_
        refine kops_d rfl rfl (opv_assign rfl rfl) ?_
        refine kops_nil ?_
        refine kn_then ?_
        refine kwp_ret ?_
        refine kr_then ?_
        refine kret1 [] rfl rfl ?_ (by (repeat (first | exact Sub.refl _ | exact Sub.nil _ | refine Sub.chunk (by repeat (first | exact Pick.here | apply Pick.there)) (by first | rfl | (simp; done) | (congr 1; omega)) ?_)))
        exact ⟨by obtain ⟨x1, x2, x3⟩ := x; obtain ⟨y1, y2, y3⟩ := y; simp_all, rfl⟩
      ·
        first | have hc6n := kb_nt hc6 | have hc6n := kb_nf hc6 | have hc6n := hc6
        first | have hc6m := of_decide_eq_true hc6n | have hc6m := of_decide_eq_false hc6n | have hc6m := kb_eq hc6n | have hc6m := kb_ne hc6n | have hc6m := kb_bne hc6n | have hc6m := kb_nbne hc6n | have hc6m := isIx_t hc6n | have hc6m := isIx_f hc6n | have hc6m := inR_t hc6n | have hc6m := inR_f hc6n | have hc6m := dec_tt hc6n | have hc6m := dec_ff hc6n | have hc6m := hc6n
        try simp only [List.get_eq_getElem] at hc6n
        try simp only [List.get_eq_getElem] at hc6m
        refine kwp_skip ?_
        refine kn_then ?_
        refine kwp_seq ?_
        refine kwp_region ?_
        refine kops_d rfl rfl (opv_assign rfl rfl) ?_
        refine kops_nil ?_
        refine kn_then ?_
        refine kwp_ret ?_
        refine kret1 [] rfl rfl ?_ (by (repeat (first | exact Sub.refl _ | exact Sub.nil _ | refine Sub.chunk (by repeat (first | exact Pick.here | apply Pick.there)) (by first | rfl | (simp; done) | (congr 1; omega)) ?_)))
        exact ⟨by obtain ⟨x1, x2, x3⟩ := x; obtain ⟨y1, y2, y3⟩ := y; simp_all, rfl⟩

set_option maxRecDepth 20000 in
theorem c_laws_eqSillS (a1 a2 : Option Addr) (n1 c1 n2 c2 : Nat) (l m : List Sill) (hb : n1 ≤ 9223372036854775807 ∧ n2 ≤ 9223372036854775807) :
    Triple Try.prog 65 [.slice a1 n1 c1, .slice a2 n2 c2] [⟨.slice a1 n1 c1, 3, l.map encSill⟩, ⟨.slice a2 n2 c2, 3, m.map encSill⟩] [] (fun r ch => r = .bool (decide (l = m)) ∧ ch = []) := by
  refine triple_start 27 Try.func65 Try.ntmps65 rfl rfl (fun w0 => ?_)
  refine kwp_len (List.Mem.head _) (fun hn1 => ?_)
  refine kwp_len (List.Mem.tail _ (List.Mem.head _)) (fun hn2 => ?_)
  simp only [List.length_map] at hn1 hn2
  subst hn1 hn2
  refine kwp_seq ?_
  refine kwp_region ?_
  refine kops_d rfl rfl (opv_assign rfl rfl) ?_
  refine kops_nil ?_
  refine kn_then ?_
  refine kwp_seq ?_
  refine kwp_seq ?_
  refine kwp_region ?_
  refine kops_d rfl rfl (opv_move rfl rfl) ?_
  refine kops_d rfl rfl (opv_len rfl rfl rfl Try.runUnderlying45) ?_
  refine kops_d rfl rfl (opv_move rfl rfl) ?_
  refine kops_d rfl rfl (opv_len rfl rfl rfl Try.runUnderlying45) ?_
  refine kops_d rfl rfl (opv_cmp rfl rfl rfl rfl) ?_
  refine kops_nil ?_
  refine kn_then ?_
  refine kwp_cond rfl (fun hc2 => ?_) (fun hc2 => ?_)
  ·
    first | have hc2n := kb_nt hc2 | have hc2n := kb_nf hc2 | have hc2n := hc2
    first | have hc2m := of_decide_eq_true hc2n | have hc2m := of_decide_eq_false hc2n | have hc2m := kb_eq hc2n | have hc2m := kb_ne hc2n | have hc2m := kb_bne hc2n | have hc2m := kb_nbne hc2n | have hc2m := isIx_t hc2n | have hc2m := isIx_f hc2n | have hc2m := inR_t hc2n | have hc2m := inR_f hc2n | have hc2m := dec_tt hc2n | have hc2m := dec_ff hc2n | have hc2m := hc2n
    try simp only [List.get_eq_getElem] at hc2n
    try simp only [List.get_eq_getElem] at hc2m
    refine kwp_seq ?_
    refine kwp_region ?_
    refine kops_d rfl rfl (opv_assign rfl rfl) ?_
    refine kops_nil ?_
    refine kn_then ?_
    refine kwp_ret ?_
    refine kr_then ?_
    refine kret1 [] rfl rfl ?_ (by (repeat (first | exact Sub.refl _ | exact Sub.nil _ | refine Sub.chunk (by repeat (first | exact Pick.here | apply Pick.there)) (by first | rfl | (simp; done) | (congr 1; omega)) ?_)))
    first | exact ⟨by rw [decide_eq_false (fun e => by subst e; omega)], rfl⟩ | exact ⟨by rw [decide_eq_false (ne_of_get (k := k) (by omega) (by omega) (by assumption))], rfl⟩ | exact ⟨by rw [decide_eq_true (eq_of_take htk (by omega) hlm)], rfl⟩
  ·
    first | have hc2n := kb_nt hc2 | have hc2n := kb_nf hc2 | have hc2n := hc2
    first | have hc2m := of_decide_eq_true hc2n | have hc2m := of_decide_eq_false hc2n | have hc2m := kb_eq hc2n | have hc2m := kb_ne hc2n | have hc2m := kb_bne hc2n | have hc2m := kb_nbne hc2n | have hc2m := isIx_t hc2n | have hc2m := isIx_f hc2n | have hc2m := inR_t hc2n | have hc2m := inR_f hc2n | have hc2m := dec_tt hc2n | have hc2m := dec_ff hc2n | have hc2m := hc2n
    try simp only [List.get_eq_getElem] at hc2n
    try simp only [List.get_eq_getElem] at hc2m
    refine kwp_skip ?_
    refine kn_then ?_
    refine kwp_seq ?_
    refine kwp_seq ?_
    refine kwp_region ?_
    refine kops_d rfl rfl (opv_assign rfl rfl) ?_
    refine kops_nil ?_
    refine kn_then ?_
    refine kwp_block ?_
    refine kwp_loop1 (inv := [(0, _), (1, _)]) (ic := [])
      (fun (k : Nat) => [(5, .int .i64 k)])
      (fun (k : Nat) => [])
      (fun (k : Nat) => k ≤ l.length ∧ l.length = m.length ∧ l.take k = m.take k)
      (fun (k : Nat) => l.length - k)
      ⟨0, ⟨by (exact ⟨by omega, by omega, by simp⟩), by (repeat (first | exact Knows.nil _ | refine Knows.cons2 rfl (by first | rfl | (simp; done) | (congr 1; omega)) ?_)), by (repeat (first | exact Sub.refl _ | exact Sub.nil _ | refine Sub.chunk (by repeat (first | exact Pick.here | apply Pick.there)) (by first | rfl | (simp; done) | (congr 1; omega)) ?_))⟩⟩ (fun k hp => ?_)
    obtain ⟨hk, hlm, htk⟩ := hp
    refine kwp_seq ?_
    refine kwp_seq ?_
    refine kwp_region ?_
    refine kops_d rfl rfl (opv_move rfl rfl) ?_
    refine kops_d rfl rfl (opv_move rfl rfl) ?_
    refine kops_d rfl rfl (opv_len rfl rfl rfl Try.runUnderlying45) ?_
    refine kops_d rfl rfl (opv_cmp rfl rfl rfl rfl) ?_
    refine kops_nil ?_
    refine kn_then ?_
    refine kwp_cond rfl (fun hc4 => ?_) (fun hc4 => ?_)
    ·
      first | have hc4n := kb_nt hc4 | have hc4n := kb_nf hc4 | have hc4n := hc4
      first | have hc4m := of_decide_eq_true hc4n | have hc4m := of_decide_eq_false hc4n | have hc4m := kb_eq hc4n | have hc4m := kb_ne hc4n | have hc4m := kb_bne hc4n | have hc4m := kb_nbne hc4n | have hc4m := isIx_t hc4n | have hc4m := isIx_f hc4n | have hc4m := inR_t hc4n | have hc4m := inR_f hc4n | have hc4m := dec_tt hc4n | have hc4m := dec_ff hc4n | have hc4m := hc4n
      try simp only [List.get_eq_getElem] at hc4n
      try simp only [List.get_eq_getElem] at hc4m
      refine kwp_skip ?_
      refine kn_then ?_
      refine kwp_seq ?_
      refine kwp_block ?_
      refine kwp_seq ?_
      refine kwp_draw [(0, true), (1, true), (2, true), (3, true), (4, true), (5, true), (6, true), (7, true), (8, false), (9, true)] [] _ drawMixed (by kernel_rfl) (fun _ _ _ h => h) (Sub.refl _) ?_
      refine ks_d rfl rfl rfl (opv_move rfl rfl) ?_
      refine ks_d rfl rfl rfl (opv_move rfl rfl) ?_
      refine ks_d rfl rfl rfl (opv_ia rfl rfl rfl Try.runUnderlying45 Try.sizeOf83 (by repeat (first | exact List.Mem.head _ | apply List.Mem.tail)) (by first | rfl | exact (Int.toNat_of_nonneg (by omega)).symm) (by first | omega | (simp only [List.length_map]; omega) | (rw [fill_len (by omega)]; omega) | (simp; omega) | (simp; done))) ?_
      refine ks_d rfl rfl rfl (opv_load_agg rfl rfl Try.isAgg83 Try.sizeOf83 (by repeat (first | exact List.Mem.head _ | apply List.Mem.tail)) (by first | rfl | exact get_map (by omega) | exact fill_get (by omega) | (simp; done))) ?_
      refine ks_d rfl rfl rfl (opv_move rfl rfl) ?_
      refine ks_d rfl rfl rfl (opv_move rfl rfl) ?_
      refine ks_d rfl rfl rfl (opv_ia rfl rfl rfl Try.runUnderlying45 Try.sizeOf83 (by repeat (first | exact List.Mem.head _ | apply List.Mem.tail)) (by first | rfl | exact (Int.toNat_of_nonneg (by omega)).symm) (by first | omega | (simp only [List.length_map]; omega) | (rw [fill_len (by omega)]; omega) | (simp; omega) | (simp; done))) ?_
      refine ks_d rfl rfl rfl (opv_load_agg rfl rfl Try.isAgg83 Try.sizeOf83 (by repeat (first | exact List.Mem.head _ | apply List.Mem.tail)) (by first | rfl | exact get_map (by omega) | exact fill_get (by omega) | (simp; done))) ?_
      refine ks_k rfl rfl (opk_call rfl Try.call84 rfl (c_laws_eqSill ⟨_, _, _⟩ ⟨_, _, _⟩) ((perm_nil _)) ((Views.nil _)) ?_)
      rintro _ _ ⟨rfl, rfl⟩
      refine ⟨.inl (by (repeat (first | exact Sub.refl _ | exact Sub.nil _ | refine Sub.chunk (by repeat (first | exact Pick.here | apply Pick.there)) (by first | rfl | (simp; done) | (congr 1; omega)) ?_))), ?_⟩
      refine ks_d rfl rfl rfl (opv_not rfl rfl) ?_
      refine ks_nil ?_
      refine kn_then ?_
      refine kwp_cond rfl (fun hc7 => ?_) (fun hc7 => ?_)
      ·
        first | have hc7n := kb_nt hc7 | have hc7n := kb_nf hc7 | have hc7n := hc7
        first | have hc7m := of_decide_eq_true hc7n | have hc7m := of_decide_eq_false hc7n | have hc7m := kb_eq hc7n | have hc7m := kb_ne hc7n | have hc7m := kb_bne hc7n | have hc7m := kb_nbne hc7n | have hc7m := isIx_t hc7n | have hc7m := isIx_f hc7n | have hc7m := inR_t hc7n | have hc7m := inR_f hc7n | have hc7m := dec_tt hc7n | have hc7m := dec_ff hc7n | have hc7m := hc7n
        try simp only [List.get_eq_getElem] at hc7n
        try simp only [List.get_eq_getElem] at hc7m
        refine kwp_seq ?_
        refine kwp_region ?_
        refine kops_d rfl rfl (opv_assign rfl rfl) ?_
        refine kops_nil ?_
        refine kn_then ?_
        refine kwp_ret ?_
        refine kr_block ?_
        refine kr_then ?_
        refine kr_then ?_
        refine kr_block ?_
        refine kr_then ?_
        refine kret1 [] rfl rfl ?_ (by (repeat (first | exact Sub.refl _ | exact Sub.nil _ | refine Sub.chunk (by repeat (first | exact Pick.here | apply Pick.there)) (by first | rfl | (simp; done) | (congr 1; omega)) ?_)))
        first | exact ⟨by rw [decide_eq_false (fun e => by subst e; omega)], rfl⟩ | exact ⟨by rw [decide_eq_false (ne_of_get (k := k) (by omega) (by omega) (by assumption))], rfl⟩ | exact ⟨by rw [decide_eq_true (eq_of_take htk (by omega) hlm)], rfl⟩
      ·
        first | have hc7n := kb_nt hc7 | have hc7n := kb_nf hc7 | have hc7n := hc7
        first | have hc7m := of_decide_eq_true hc7n | have hc7m := of_decide_eq_false hc7n | have hc7m := kb_eq hc7n | have hc7m := kb_ne hc7n | have hc7m := kb_bne hc7n | have hc7m := kb_nbne hc7n | have hc7m := isIx_t hc7n | have hc7m := isIx_f hc7n | have hc7m := inR_t hc7n | have hc7m := inR_f hc7n | have hc7m := dec_tt hc7n | have hc7m := dec_ff hc7n | have hc7m := hc7n
        try simp only [List.get_eq_getElem] at hc7n
        try simp only [List.get_eq_getElem] at hc7m
        refine kwp_skip ?_
        refine kn_block ?_
        refine kn_then ?_
        refine kwp_region ?_
        refine kops_d rfl rfl (opv_move rfl rfl) ?_
        refine kops_d rfl rfl (by first | exact opv_add rfl rfl rfl ⟨by omega, by omega⟩ | exact opv_ari rfl rfl rfl rfl) ?_
        refine kops_d rfl rfl (opv_assign rfl rfl) ?_
        refine kops_nil ?_
        refine kn_then ?_
        exact ⟨k + 1, ⟨by (exact ⟨by omega, hlm, take_succ_eq htk (by omega) (by omega) (by assumption)⟩), by (repeat (first | exact Knows.nil _ | refine Knows.cons2 rfl (by first | rfl | (simp; done) | (congr 1; omega)) ?_)), by (repeat (first | exact Sub.refl _ | exact Sub.nil _ | refine Sub.chunk (by repeat (first | exact Pick.here | apply Pick.there)) (by first | rfl | (simp; done) | (congr 1; omega)) ?_))⟩, by omega⟩
    ·
      first | have hc4n := kb_nt hc4 | have hc4n := kb_nf hc4 | have hc4n := hc4
      first | have hc4m := of_decide_eq_true hc4n | have hc4m := of_decide_eq_false hc4n | have hc4m := kb_eq hc4n | have hc4m := kb_ne hc4n | have hc4m := kb_bne hc4n | have hc4m := kb_nbne hc4n | have hc4m := isIx_t hc4n | have hc4m := isIx_f hc4n | have hc4m := inR_t hc4n | have hc4m := inR_f hc4n | have hc4m := dec_tt hc4n | have hc4m := dec_ff hc4n | have hc4m := hc4n
      try simp only [List.get_eq_getElem] at hc4n
      try simp only [List.get_eq_getElem] at hc4m
      refine kwp_exit ?_
      refine ke_then ?_
      refine ke_then ?_
      refine ke_block ?_
      refine kn_then ?_
      refine kwp_seq ?_
      refine kwp_region ?_
      refine kops_d rfl rfl (opv_assign rfl rfl) ?_
      refine kops_nil ?_
      refine kn_then ?_
      refine kwp_ret ?_
      refine kret1 [] rfl rfl ?_ (by (repeat (first | exact Sub.refl _ | exact Sub.nil _ | refine Sub.chunk (by repeat (first | exact Pick.here | apply Pick.there)) (by first | rfl | (simp; done) | (congr 1; omega)) ?_)))
      first | exact ⟨by rw [decide_eq_false (fun e => by subst e; omega)], rfl⟩ | exact ⟨by rw [decide_eq_false (ne_of_get (k := k) (by omega) (by omega) (by assumption))], rfl⟩ | exact ⟨by rw [decide_eq_true (eq_of_take htk (by omega) hlm)], rfl⟩

set_option maxRecDepth 20000 in
theorem c_laws_eqIntS (a1 a2 : Option Addr) (n1 c1 n2 c2 : Nat) (l m : List Int) (hb : n1 ≤ 9223372036854775807 ∧ n2 ≤ 9223372036854775807) :
    Triple Try.prog 31 [.slice a1 n1 c1, .slice a2 n2 c2] [⟨.slice a1 n1 c1, 1, l.map encI⟩, ⟨.slice a2 n2 c2, 1, m.map encI⟩] [] (fun r ch => r = .bool (decide (l = m)) ∧ ch = []) := by
  refine triple_start 26 Try.func31 Try.ntmps31 rfl rfl (fun w0 => ?_)
  refine kwp_len (List.Mem.head _) (fun hn1 => ?_)
  refine kwp_len (List.Mem.tail _ (List.Mem.head _)) (fun hn2 => ?_)
  simp only [List.length_map] at hn1 hn2
  subst hn1 hn2
  refine kwp_seq ?_
  refine kwp_region ?_
  refine kops_d rfl rfl (opv_assign rfl rfl) ?_
  refine kops_nil ?_
  refine kn_then ?_
  refine kwp_seq ?_
  refine kwp_seq ?_
  refine kwp_region ?_
  refine kops_d rfl rfl (opv_move rfl rfl) ?_
  refine kops_d rfl rfl (opv_len rfl rfl rfl Try.runUnderlying39) ?_
  refine kops_d rfl rfl (opv_move rfl rfl) ?_
  refine kops_d rfl rfl (opv_len rfl rfl rfl Try.runUnderlying39) ?_
  refine kops_d rfl rfl (opv_cmp rfl rfl rfl rfl) ?_
  refine kops_nil ?_
  refine kn_then ?_
  refine kwp_cond rfl (fun hc2 => ?_) (fun hc2 => ?_)
  ·
    first | have hc2n := kb_nt hc2 | have hc2n := kb_nf hc2 | have hc2n := hc2
    first | have hc2m := of_decide_eq_true hc2n | have hc2m := of_decide_eq_false hc2n | have hc2m := kb_eq hc2n | have hc2m := kb_ne hc2n | have hc2m := kb_bne hc2n | have hc2m := kb_nbne hc2n | have hc2m := isIx_t hc2n | have hc2m := isIx_f hc2n | have hc2m := inR_t hc2n | have hc2m := inR_f hc2n | have hc2m := dec_tt hc2n | have hc2m := dec_ff hc2n | have hc2m := hc2n
    try simp only [List.get_eq_getElem] at hc2n
    try simp only [List.get_eq_getElem] at hc2m
    refine kwp_seq ?_
    refine kwp_region ?_
    refine kops_d rfl rfl (opv_assign rfl rfl) ?_
    refine kops_nil ?_
    refine kn_then ?_
    refine kwp_ret ?_
    refine kr_then ?_
    refine kret1 [] rfl rfl ?_ (by (repeat (first | exact Sub.refl _ | exact Sub.nil _ | refine Sub.chunk (by repeat (first | exact Pick.here | apply Pick.there)) (by first | rfl | (simp; done) | (congr 1; omega)) ?_)))
    first | exact ⟨by rw [decide_eq_false (fun e => by subst e; omega)], rfl⟩ | exact ⟨by rw [decide_eq_false (ne_of_get (k := k) (by omega) (by omega) (by assumption))], rfl⟩ | exact ⟨by rw [decide_eq_true (eq_of_take htk (by omega) hlm)], rfl⟩
  ·
    first | have hc2n := kb_nt hc2 | have hc2n := kb_nf hc2 | have hc2n := hc2
    first | have hc2m := of_decide_eq_true hc2n | have hc2m := of_decide_eq_false hc2n | have hc2m := kb_eq hc2n | have hc2m := kb_ne hc2n | have hc2m := kb_bne hc2n | have hc2m := kb_nbne hc2n | have hc2m := isIx_t hc2n | have hc2m := isIx_f hc2n | have hc2m := inR_t hc2n | have hc2m := inR_f hc2n | have hc2m := dec_tt hc2n | have hc2m := dec_ff hc2n | have hc2m := hc2n
    try simp only [List.get_eq_getElem] at hc2n
    try simp only [List.get_eq_getElem] at hc2m
    refine kwp_skip ?_
    refine kn_then ?_
    refine kwp_seq ?_
    refine kwp_seq ?_
    refine kwp_region ?_
    refine kops_d rfl rfl (opv_assign rfl rfl) ?_
    refine kops_nil ?_
    refine kn_then ?_
    refine kwp_block ?_
    refine kwp_loop1 (inv := [(0, _), (1, _)]) (ic := [])
      (fun (k : Nat) => [(5, .int .i64 k)])
      (fun (k : Nat) => [])
      (fun (k : Nat) => k ≤ l.length ∧ l.length = m.length ∧ l.take k = m.take k)
      (fun (k : Nat) => l.length - k)
      ⟨0, ⟨by (exact ⟨by omega, by omega, by simp⟩), by (repeat (first | exact Knows.nil _ | refine Knows.cons2 rfl (by first | rfl | (simp; done) | (congr 1; omega)) ?_)), by (repeat (first | exact Sub.refl _ | exact Sub.nil _ | refine Sub.chunk (by repeat (first | exact Pick.here | apply Pick.there)) (by first | rfl | (simp; done) | (congr 1; omega)) ?_))⟩⟩ (fun k hp => ?_)
    obtain ⟨hk, hlm, htk⟩ := hp
    refine kwp_seq ?_
    refine kwp_seq ?_
    refine kwp_region ?_
    refine kops_d rfl rfl (opv_move rfl rfl) ?_
    refine kops_d rfl rfl (opv_move rfl rfl) ?_
    refine kops_d rfl rfl (opv_len rfl rfl rfl Try.runUnderlying39) ?_
    refine kops_d rfl rfl (opv_cmp rfl rfl rfl rfl) ?_
    refine kops_nil ?_
    refine kn_then ?_
    refine kwp_cond rfl (fun hc4 => ?_) (fun hc4 => ?_)
    ·
      first | have hc4n := kb_nt hc4 | have hc4n := kb_nf hc4 | have hc4n := hc4
      first | have hc4m := of_decide_eq_true hc4n | have hc4m := of_decide_eq_false hc4n | have hc4m := kb_eq hc4n | have hc4m := kb_ne hc4n | have hc4m := kb_bne hc4n | have hc4m := kb_nbne hc4n | have hc4m := isIx_t hc4n | have hc4m := isIx_f hc4n | have hc4m := inR_t hc4n | have hc4m := inR_f hc4n | have hc4m := dec_tt hc4n | have hc4m := dec_ff hc4n | have hc4m := hc4n
      try simp only [List.get_eq_getElem] at hc4n
      try simp only [List.get_eq_getElem] at hc4m
      refine kwp_skip ?_
      refine kn_then ?_
      refine kwp_seq ?_
      refine kwp_block ?_
      refine kwp_seq ?_
      refine kwp_draw [(0, true), (1, true), (2, true), (3, true), (4, true), (5, true), (6, true), (7, true), (8, true)] [] _ drawMixed (by kernel_rfl) (fun _ _ _ h => h) (Sub.refl _) ?_
      refine ks_d rfl rfl rfl (opv_move rfl rfl) ?_
      refine ks_d rfl rfl rfl (opv_move rfl rfl) ?_
      refine ks_d rfl rfl rfl (opv_ia rfl rfl rfl Try.runUnderlying39 Try.sizeOf3 (by repeat (first | exact List.Mem.head _ | apply List.Mem.tail)) (by first | rfl | exact (Int.toNat_of_nonneg (by omega)).symm) (by first | omega | (simp only [List.length_map]; omega) | (rw [fill_len (by omega)]; omega) | (simp; omega) | (simp; done))) ?_
      refine ks_d rfl rfl rfl (opv_load rfl rfl Try.isAgg3 (by repeat (first | exact List.Mem.head _ | apply List.Mem.tail)) (by first | rfl | exact get_map (by omega) | exact fill_get (by omega) | (simp; done)) rfl) ?_
      refine ks_d rfl rfl rfl (opv_move rfl rfl) ?_
      refine ks_d rfl rfl rfl (opv_move rfl rfl) ?_
      refine ks_d rfl rfl rfl (opv_ia rfl rfl rfl Try.runUnderlying39 Try.sizeOf3 (by repeat (first | exact List.Mem.head _ | apply List.Mem.tail)) (by first | rfl | exact (Int.toNat_of_nonneg (by omega)).symm) (by first | omega | (simp only [List.length_map]; omega) | (rw [fill_len (by omega)]; omega) | (simp; omega) | (simp; done))) ?_
      refine ks_d rfl rfl rfl (opv_load rfl rfl Try.isAgg3 (by repeat (first | exact List.Mem.head _ | apply List.Mem.tail)) (by first | rfl | exact get_map (by omega) | exact fill_get (by omega) | (simp; done)) rfl) ?_
      refine ks_d rfl rfl rfl (opv_cmp rfl rfl rfl rfl) ?_
      refine ks_nil ?_
      refine kn_then ?_
      refine kwp_cond rfl (fun hc6 => ?_) (fun hc6 => ?_)
      ·
        first | have hc6n := kb_nt hc6 | have hc6n := kb_nf hc6 | have hc6n := hc6
        first | have hc6m := of_decide_eq_true hc6n | have hc6m := of_decide_eq_false hc6n | have hc6m := kb_eq hc6n | have hc6m := kb_ne hc6n | have hc6m := kb_bne hc6n | have hc6m := kb_nbne hc6n | have hc6m := isIx_t hc6n | have hc6m := isIx_f hc6n | have hc6m := inR_t hc6n | have hc6m := inR_f hc6n | have hc6m := dec_tt hc6n | have hc6m := dec_ff hc6n | have hc6m := hc6n
        try simp only [List.get_eq_getElem] at hc6n
        try simp only [List.get_eq_getElem] at hc6m
        refine kwp_seq ?_
        refine kwp_region ?_
        refine kops_d rfl rfl (opv_assign rfl rfl) ?_
        refine kops_nil ?_
        refine kn_then ?_
        refine kwp_ret ?_
        refine kr_block ?_
        refine kr_then ?_
        refine kr_then ?_
        refine kr_block ?_
        refine kr_then ?_
        refine kret1 [] rfl rfl ?_ (by (repeat (first | exact Sub.refl _ | exact Sub.nil _ | refine Sub.chunk (by repeat (first | exact Pick.here | apply Pick.there)) (by first | rfl | (simp; done) | (congr 1; omega)) ?_)))
        first | exact ⟨by rw [decide_eq_false (fun e => by subst e; omega)], rfl⟩ | exact ⟨by rw [decide_eq_false (ne_of_get (k := k) (by omega) (by omega) (by assumption))], rfl⟩ | exact ⟨by rw [decide_eq_true (eq_of_take htk (by omega) hlm)], rfl⟩
      ·
        first | have hc6n := kb_nt hc6 | have hc6n := kb_nf hc6 | have hc6n := hc6
        first | have hc6m := of_decide_eq_true hc6n | have hc6m := of_decide_eq_false hc6n | have hc6m := kb_eq hc6n | have hc6m := kb_ne hc6n | have hc6m := kb_bne hc6n | have hc6m := kb_nbne hc6n | have hc6m := isIx_t hc6n | have hc6m := isIx_f hc6n | have hc6m := inR_t hc6n | have hc6m := inR_f hc6n | have hc6m := dec_tt hc6n | have hc6m := dec_ff hc6n | have hc6m := hc6n
        try simp only [List.get_eq_getElem] at hc6n
        try simp only [List.get_eq_getElem] at hc6m
        refine kwp_skip ?_
        refine kn_block ?_
        refine kn_then ?_
        refine kwp_region ?_
        refine kops_d rfl rfl (opv_move rfl rfl) ?_
        refine kops_d rfl rfl (by first | exact opv_add rfl rfl rfl ⟨by omega, by omega⟩ | exact opv_ari rfl rfl rfl rfl) ?_
        refine kops_d rfl rfl (opv_assign rfl rfl) ?_
        refine kops_nil ?_
        refine kn_then ?_
        exact ⟨k + 1, ⟨by (exact ⟨by omega, hlm, take_succ_eq htk (by omega) (by omega) (by assumption)⟩), by (repeat (first | exact Knows.nil _ | refine Knows.cons2 rfl (by first | rfl | (simp; done) | (congr 1; omega)) ?_)), by (repeat (first | exact Sub.refl _ | exact Sub.nil _ | refine Sub.chunk (by repeat (first | exact Pick.here | apply Pick.there)) (by first | rfl | (simp; done) | (congr 1; omega)) ?_))⟩, by omega⟩
    ·
      first | have hc4n := kb_nt hc4 | have hc4n := kb_nf hc4 | have hc4n := hc4
      first | have hc4m := of_decide_eq_true hc4n | have hc4m := of_decide_eq_false hc4n | have hc4m := kb_eq hc4n | have hc4m := kb_ne hc4n | have hc4m := kb_bne hc4n | have hc4m := kb_nbne hc4n | have hc4m := isIx_t hc4n | have hc4m := isIx_f hc4n | have hc4m := inR_t hc4n | have hc4m := inR_f hc4n | have hc4m := dec_tt hc4n | have hc4m := dec_ff hc4n | have hc4m := hc4n
      try simp only [List.get_eq_getElem] at hc4n
      try simp only [List.get_eq_getElem] at hc4m
      refine kwp_exit ?_
      refine ke_then ?_
      refine ke_then ?_
      refine ke_block ?_
      refine kn_then ?_
      refine kwp_seq ?_
      refine kwp_region ?_
      refine kops_d rfl rfl (opv_assign rfl rfl) ?_
      refine kops_nil ?_
      refine kn_then ?_
      refine kwp_ret ?_
      refine kret1 [] rfl rfl ?_ (by (repeat (first | exact Sub.refl _ | exact Sub.nil _ | refine Sub.chunk (by repeat (first | exact Pick.here | apply Pick.there)) (by first | rfl | (simp; done) | (congr 1; omega)) ?_)))
      first | exact ⟨by rw [decide_eq_false (fun e => by subst e; omega)], rfl⟩ | exact ⟨by rw [decide_eq_false (ne_of_get (k := k) (by omega) (by omega) (by assumption))], rfl⟩ | exact ⟨by rw [decide_eq_true (eq_of_take htk (by omega) hlm)], rfl⟩

set_option maxRecDepth 20000 in
theorem c_laws_szCave (af aa al : Option Addr) (nf cf na ca ns cs : Nat) (left : Int) (hb : 0 ≤ left ∧ left ≤ 1048576) (hn : nf ≤ 9223372036854775807 ∧ na ≤ 9223372036854775807 ∧ ns ≤ 9223372036854775807) :
    Triple Try.prog 23 [.agg #[.slice af nf cf, .slice aa na ca, .slice al ns cs], .int .i64 left] [] [] (fun r ch => ∃ x, r = .int .i64 x ∧ -1 ≤ x ∧ x ≤ left ∧ (x < 0 ∨ x = left - nf - na - ns) ∧ ch = []) := by
  refine triple_start 24 Try.func23 Try.ntmps23 rfl rfl (fun w0 => ?_)
  refine kwp_seq ?_
  refine kwp_region ?_
  refine kops_step rfl (opk_box' (e := [_, _, _]) 3 rfl rfl rfl rfl (by decide) (fun p2 => ?_))
  refine kops_d rfl rfl (opv_assign rfl rfl) ?_
  refine kops_nil ?_
  refine kn_then ?_
  refine kwp_seq ?_
  refine kwp_region ?_
  refine kops_d rfl rfl (opv_fab rfl rfl fa_42_0 (by repeat (first | exact List.Mem.head _ | apply List.Mem.tail))) ?_
  refine kops_d rfl rfl (opv_load rfl rfl Try.isAgg39 (by repeat (first | exact List.Mem.head _ | apply List.Mem.tail)) (by first | rfl | exact get_map (by omega) | exact fill_get (by omega) | (simp; done)) rfl) ?_
  refine kops_d rfl rfl (opv_move rfl rfl) ?_
  refine kops_step rfl (opk_call rfl Try.call62 rfl (c_laws_szIntS _ _ _ _ ⟨by omega, by omega⟩ (by omega)) ((perm_nil _)) ((Views.nil _)) ?_)
  rintro _ _ ⟨x8, rfl, hl8, hg8, hx8, rfl⟩
  refine kops_d rfl rfl (opv_assign rfl rfl) ?_
  refine kops_nil ?_
  refine kn_then ?_
  refine kwp_seq ?_
  refine kwp_seq ?_
  refine kwp_region ?_
  refine kops_d rfl rfl (opv_move rfl rfl) ?_
  refine kops_d rfl rfl (opv_cmp rfl rfl rfl rfl) ?_
  refine kops_nil ?_
  refine kn_then ?_
  refine kwp_cond rfl (fun hc2 => ?_) (fun hc2 => ?_)
  ·
    first | have hc2n := kb_nt hc2 | have hc2n := kb_nf hc2 | have hc2n := hc2
    first | have hc2m := of_decide_eq_true hc2n | have hc2m := of_decide_eq_false hc2n | have hc2m := kb_eq hc2n | have hc2m := kb_ne hc2n | have hc2m := kb_bne hc2n | have hc2m := kb_nbne hc2n | have hc2m := isIx_t hc2n | have hc2m := isIx_f hc2n | have hc2m := inR_t hc2n | have hc2m := inR_f hc2n | have hc2m := dec_tt hc2n | have hc2m := dec_ff hc2n | have hc2m := hc2n
    try simp only [List.get_eq_getElem] at hc2n
    try simp only [List.get_eq_getElem] at hc2m
    refine kwp_seq ?_
    refine kwp_region ?_
    refine kops_d rfl rfl (opv_assign rfl rfl) ?_
    refine kops_nil ?_
    refine kn_then ?_
    refine kwp_ret ?_
    refine kr_then ?_
    refine kret1 [] rfl rfl ?_ (by (repeat (first | exact Sub.refl _ | exact Sub.nil _ | refine Sub.chunk (by repeat (first | exact Pick.here | apply Pick.there)) (by first | rfl | (simp; done) | (congr 1; omega)) ?_)))
    exact ⟨_, rfl, by omega, by omega, by omega, rfl⟩
  ·
    first | have hc2n := kb_nt hc2 | have hc2n := kb_nf hc2 | have hc2n := hc2
    first | have hc2m := of_decide_eq_true hc2n | have hc2m := of_decide_eq_false hc2n | have hc2m := kb_eq hc2n | have hc2m := kb_ne hc2n | have hc2m := kb_bne hc2n | have hc2m := kb_nbne hc2n | have hc2m := isIx_t hc2n | have hc2m := isIx_f hc2n | have hc2m := inR_t hc2n | have hc2m := inR_f hc2n | have hc2m := dec_tt hc2n | have hc2m := dec_ff hc2n | have hc2m := hc2n
    try simp only [List.get_eq_getElem] at hc2n
    try simp only [List.get_eq_getElem] at hc2m
    refine kwp_skip ?_
    refine kn_then ?_
    refine kwp_seq ?_
    refine kwp_region ?_
    refine kops_d rfl rfl (opv_fab rfl rfl fa_42_1 (by repeat (first | exact List.Mem.head _ | apply List.Mem.tail))) ?_
    refine kops_d rfl rfl (opv_load rfl rfl Try.isAgg39 (by repeat (first | exact List.Mem.head _ | apply List.Mem.tail)) (by first | rfl | exact get_map (by omega) | exact fill_get (by omega) | (simp; done)) rfl) ?_
    refine kops_d rfl rfl (opv_move rfl rfl) ?_
    refine kops_step rfl (opk_call rfl Try.call62 rfl (c_laws_szIntS _ _ _ _ ⟨by omega, by omega⟩ (by omega)) ((perm_nil _)) ((Views.nil _)) ?_)
    rintro _ _ ⟨x14, rfl, hl14, hg14, hx14, rfl⟩
    refine kops_d rfl rfl (opv_assign rfl rfl) ?_
    refine kops_nil ?_
    refine kn_then ?_
    refine kwp_seq ?_
    refine kwp_seq ?_
    refine kwp_region ?_
    refine kops_d rfl rfl (opv_move rfl rfl) ?_
    refine kops_d rfl rfl (opv_cmp rfl rfl rfl rfl) ?_
    refine kops_nil ?_
    refine kn_then ?_
    refine kwp_cond rfl (fun hc4 => ?_) (fun hc4 => ?_)
    ·
      first | have hc4n := kb_nt hc4 | have hc4n := kb_nf hc4 | have hc4n := hc4
      first | have hc4m := of_decide_eq_true hc4n | have hc4m := of_decide_eq_false hc4n | have hc4m := kb_eq hc4n | have hc4m := kb_ne hc4n | have hc4m := kb_bne hc4n | have hc4m := kb_nbne hc4n | have hc4m := isIx_t hc4n | have hc4m := isIx_f hc4n | have hc4m := inR_t hc4n | have hc4m := inR_f hc4n | have hc4m := dec_tt hc4n | have hc4m := dec_ff hc4n | have hc4m := hc4n
      try simp only [List.get_eq_getElem] at hc4n
      try simp only [List.get_eq_getElem] at hc4m
      refine kwp_seq ?_
      refine kwp_region ?_
      refine kops_d rfl rfl (opv_assign rfl rfl) ?_
      refine kops_nil ?_
      refine kn_then ?_
      refine kwp_ret ?_
      refine kr_then ?_
      refine kret1 [] rfl rfl ?_ (by (repeat (first | exact Sub.refl _ | exact Sub.nil _ | refine Sub.chunk (by repeat (first | exact Pick.here | apply Pick.there)) (by first | rfl | (simp; done) | (congr 1; omega)) ?_)))
      exact ⟨_, rfl, by omega, by omega, by omega, rfl⟩
    ·
      first | have hc4n := kb_nt hc4 | have hc4n := kb_nf hc4 | have hc4n := hc4
      first | have hc4m := of_decide_eq_true hc4n | have hc4m := of_decide_eq_false hc4n | have hc4m := kb_eq hc4n | have hc4m := kb_ne hc4n | have hc4m := kb_bne hc4n | have hc4m := kb_nbne hc4n | have hc4m := isIx_t hc4n | have hc4m := isIx_f hc4n | have hc4m := inR_t hc4n | have hc4m := inR_f hc4n | have hc4m := dec_tt hc4n | have hc4m := dec_ff hc4n | have hc4m := hc4n
      try simp only [List.get_eq_getElem] at hc4n
      try simp only [List.get_eq_getElem] at hc4m
      refine kwp_skip ?_
      refine kn_then ?_
      refine kwp_seq ?_
      refine kwp_region ?_
      refine kops_d rfl rfl (opv_fab rfl rfl fa_42_2 (by repeat (first | exact List.Mem.head _ | apply List.Mem.tail))) ?_
      refine kops_d rfl rfl (opv_load rfl rfl Try.isAgg40 (by repeat (first | exact List.Mem.head _ | apply List.Mem.tail)) (by first | rfl | exact get_map (by omega) | exact fill_get (by omega) | (simp; done)) rfl) ?_
      refine kops_d rfl rfl (opv_move rfl rfl) ?_
      refine kops_step rfl (opk_call rfl Try.call63 rfl (c_laws_szSillS _ _ _ _ ⟨by omega, by omega⟩ (by omega)) ((perm_nil _)) ((Views.nil _)) ?_)
      rintro _ _ ⟨x20, rfl, hl20, hg20, hx20, rfl⟩
      refine kops_d rfl rfl (opv_assign rfl rfl) ?_
      refine kops_nil ?_
      refine kn_then ?_
      refine kwp_seq ?_
      refine kwp_seq ?_
      refine kwp_region ?_
      refine kops_d rfl rfl (opv_move rfl rfl) ?_
      refine kops_d rfl rfl (opv_cmp rfl rfl rfl rfl) ?_
      refine kops_nil ?_
      refine kn_then ?_
      refine kwp_cond rfl (fun hc6 => ?_) (fun hc6 => ?_)
      ·
        first | have hc6n := kb_nt hc6 | have hc6n := kb_nf hc6 | have hc6n := hc6
        first | have hc6m := of_decide_eq_true hc6n | have hc6m := of_decide_eq_false hc6n | have hc6m := kb_eq hc6n | have hc6m := kb_ne hc6n | have hc6m := kb_bne hc6n | have hc6m := kb_nbne hc6n | have hc6m := isIx_t hc6n | have hc6m := isIx_f hc6n | have hc6m := inR_t hc6n | have hc6m := inR_f hc6n | have hc6m := dec_tt hc6n | have hc6m := dec_ff hc6n | have hc6m := hc6n
        try simp only [List.get_eq_getElem] at hc6n
        try simp only [List.get_eq_getElem] at hc6m
        refine kwp_seq ?_
        refine kwp_region ?_
        refine kops_d rfl rfl (opv_assign rfl rfl) ?_
        refine kops_nil ?_
        refine kn_then ?_
        refine kwp_ret ?_
        refine kr_then ?_
        refine kret1 [] rfl rfl ?_ (by (repeat (first | exact Sub.refl _ | exact Sub.nil _ | refine Sub.chunk (by repeat (first | exact Pick.here | apply Pick.there)) (by first | rfl | (simp; done) | (congr 1; omega)) ?_)))
        exact ⟨_, rfl, by omega, by omega, by omega, rfl⟩
      ·
        first | have hc6n := kb_nt hc6 | have hc6n := kb_nf hc6 | have hc6n := hc6
        first | have hc6m := of_decide_eq_true hc6n | have hc6m := of_decide_eq_false hc6n | have hc6m := kb_eq hc6n | have hc6m := kb_ne hc6n | have hc6m := kb_bne hc6n | have hc6m := kb_nbne hc6n | have hc6m := isIx_t hc6n | have hc6m := isIx_f hc6n | have hc6m := inR_t hc6n | have hc6m := inR_f hc6n | have hc6m := dec_tt hc6n | have hc6m := dec_ff hc6n | have hc6m := hc6n
        try simp only [List.get_eq_getElem] at hc6n
        try simp only [List.get_eq_getElem] at hc6m
        refine kwp_skip ?_
        refine kn_then ?_
        refine kwp_seq ?_
        refine kwp_region ?_
        refine kops_d rfl rfl (opv_move rfl rfl) ?_
        refine kops_d rfl rfl (opv_assign rfl rfl) ?_
        refine kops_nil ?_
        refine kn_then ?_
        refine kwp_ret ?_
        refine kret1 [] rfl rfl ?_ (by (repeat (first | exact Sub.refl _ | exact Sub.nil _ | refine Sub.chunk (by repeat (first | exact Pick.here | apply Pick.there)) (by first | rfl | (simp; done) | (congr 1; omega)) ?_)))
        exact ⟨_, rfl, by omega, by omega, by omega, rfl⟩

set_option maxRecDepth 20000 in
theorem c_laws_toCave (af aa al : Option Addr) (nf cf na ca ns cs : Nat) (F A : List Int) (S : List Sill) (hb : nf ≤ 1048576 ∧ na ≤ 1048576 ∧ ns ≤ 1048576) :
    Triple Try.prog 25 [.agg #[.slice af nf cf, .slice aa na ca, .slice al ns cs]] [⟨.slice af nf cf, 1, F.map encI⟩, ⟨.slice aa na ca, 1, A.map encI⟩, ⟨.slice al ns cs, 3, S.map encSill⟩] [] (fun r ch => ∃ a1 c1 a2 c2 a3 c3, r = .agg #[.slice a1 nf c1, .slice a2 na c2, .slice a3 ns c3] ∧ ch = [⟨.slice a1 nf c1, 1, F.map encI⟩, ⟨.slice a2 na c2, 1, A.map encI⟩, ⟨.slice a3 ns c3, 3, S.map encSill⟩]) := by
  refine triple_start 17 Try.func25 Try.ntmps25 rfl rfl (fun w0 => ?_)
  refine kwp_seq ?_
  refine kwp_region ?_
  refine kops_step rfl (opk_box' (e := [_, _, _]) 3 rfl rfl rfl rfl (by decide) (fun p1 => ?_))
  refine kops_step rfl (opk_alloc' (e := [_, _, _]) 3 rfl Try.zeroValue47 rfl rfl (by decide) (fun p2 => ?_))
  refine kops_nil ?_
  refine kn_then ?_
  refine kwp_seq ?_
  refine kwp_region ?_
  refine kops_step rfl (opk_alloc' (e := [_, _, _]) 3 rfl Try.zeroValue47 rfl rfl (by decide) (fun p3 => ?_))
  refine kops_nil ?_
  refine kn_then ?_
  refine kwp_seq ?_
  refine kwp_region ?_
  refine kops_d rfl rfl (opv_fab rfl rfl fa_42_0 (by repeat (first | exact List.Mem.head _ | apply List.Mem.tail))) ?_
  refine kops_d rfl rfl (opv_load rfl rfl Try.isAgg39 (by repeat (first | exact List.Mem.head _ | apply List.Mem.tail)) (by first | rfl | exact get_map (by omega) | exact fill_get (by omega) | (simp; done)) rfl) ?_
  refine kops_step rfl (opk_call rfl Try.call29 rfl (c_laws_toIntS _ _ _ _ (by omega)) ((perm_nil _)) (Views.cons (by repeat (first | exact List.Mem.head _ | apply List.Mem.tail)) (View.refl _) ((Views.nil _))) ?_)
  rintro _ _ ⟨a6, c6, rfl, rfl⟩
  refine kops_d rfl rfl (opv_fab rfl rfl fa_47_0 (by repeat (first | exact List.Mem.head _ | apply List.Mem.tail))) ?_
  refine kops_step rfl (opk_store rfl rfl rfl Try.sizeOf39 rfl (by repeat (first | exact Upd.here | apply Upd.there)) (by first | rfl | exact get_map (by omega) | exact fill_get (by omega) | (simp; done)) (by decide) ?_)
  refine kops_nil ?_
  refine kn_then ?_
  refine kwp_seq ?_
  refine kwp_region ?_
  refine kops_d rfl rfl (opv_fab rfl rfl fa_42_1 (by repeat (first | exact List.Mem.head _ | apply List.Mem.tail))) ?_
  refine kops_d rfl rfl (opv_load rfl rfl Try.isAgg39 (by repeat (first | exact List.Mem.head _ | apply List.Mem.tail)) (by first | rfl | exact get_map (by omega) | exact fill_get (by omega) | (simp; done)) rfl) ?_
  refine kops_step rfl (opk_call rfl Try.call29 rfl (c_laws_toIntS _ _ _ _ (by omega)) ((perm_nil _)) (Views.cons (by repeat (first | exact List.Mem.head _ | apply List.Mem.tail)) (View.refl _) ((Views.nil _))) ?_)
  rintro _ _ ⟨a10, c10, rfl, rfl⟩
  refine kops_d rfl rfl (opv_fab rfl rfl fa_47_1 (by repeat (first | exact List.Mem.head _ | apply List.Mem.tail))) ?_
  refine kops_step rfl (opk_store rfl rfl rfl Try.sizeOf39 rfl (by repeat (first | exact Upd.here | apply Upd.there)) (by first | rfl | exact get_map (by omega) | exact fill_get (by omega) | (simp; done)) (by decide) ?_)
  refine kops_nil ?_
  refine kn_then ?_
  refine kwp_seq ?_
  refine kwp_region ?_
  refine kops_d rfl rfl (opv_fab rfl rfl fa_42_2 (by repeat (first | exact List.Mem.head _ | apply List.Mem.tail))) ?_
  refine kops_d rfl rfl (opv_load rfl rfl Try.isAgg40 (by repeat (first | exact List.Mem.head _ | apply List.Mem.tail)) (by first | rfl | exact get_map (by omega) | exact fill_get (by omega) | (simp; done)) rfl) ?_
  refine kops_step rfl (opk_call rfl Try.call64 rfl (c_laws_toSillS _ _ _ _ (by omega)) ((perm_nil _)) (Views.cons (by repeat (first | exact List.Mem.head _ | apply List.Mem.tail)) (View.refl _) ((Views.nil _))) ?_)
  rintro _ _ ⟨a14, c14, rfl, rfl⟩
  refine kops_d rfl rfl (opv_fab rfl rfl fa_47_2 (by repeat (first | exact List.Mem.head _ | apply List.Mem.tail))) ?_
  refine kops_step rfl (opk_store rfl rfl rfl Try.sizeOf45 rfl (by repeat (first | exact Upd.here | apply Upd.there)) (by first | rfl | exact get_map (by omega) | exact fill_get (by omega) | (simp; done)) (by decide) ?_)
  refine kops_nil ?_
  refine kn_then ?_
  refine kwp_seq ?_
  refine kwp_region ?_
  refine kops_d rfl rfl (opv_load_box rfl rfl Try.isAgg47 Try.sizeOf47 (by repeat (first | exact List.Mem.head _ | apply List.Mem.tail))) ?_
  refine kops_step rfl (opk_store_box (e' := [_, _, _]) rfl rfl rfl Try.sizeOf47 rfl (by first | exact one_aw | exact one_int | exact one_sill | decide | (simp [Value.oneCell']; done) | (intro x hx; simp at hx; rcases hx with rfl | rfl | rfl | rfl | rfl <;> rfl)) rfl (by repeat (first | exact Upd.here | apply Upd.there)) ?_)
  refine kops_nil ?_
  refine kn_then ?_
  refine kwp_ret ?_
  refine kretc [⟨.slice _ nf _, 1, F.map encI⟩, ⟨.slice _ na _, 1, A.map encI⟩, ⟨.slice _ ns _, 3, S.map encSill⟩] rfl rfl Try.isAgg47 Try.sizeOf47 (by repeat (first | exact List.Mem.head _ | apply List.Mem.tail)) ?_ (by (repeat (first | exact Sub.refl _ | exact Sub.nil _ | refine Sub.chunk (by repeat (first | exact Pick.here | apply Pick.there)) (by first | rfl | (simp; done) | (congr 1; omega)) ?_)))
  exact ⟨_, _, _, _, _, _, rfl, rfl⟩

set_option maxRecDepth 20000 in
theorem c_laws_eqCave (af aa al : Option Addr) (nf cf na ca ns cs : Nat) (F A : List Int) (S : List Sill) (af' aa' al' : Option Addr) (nf' cf' na' ca' ns' cs' : Nat) (F' A' : List Int) (S' : List Sill) (hb : nf ≤ 9223372036854775807 ∧ na ≤ 9223372036854775807 ∧ ns ≤ 9223372036854775807) (hb' : nf' ≤ 9223372036854775807 ∧ na' ≤ 9223372036854775807 ∧ ns' ≤ 9223372036854775807) :
    Triple Try.prog 27 [.agg #[.slice af nf cf, .slice aa na ca, .slice al ns cs], .agg #[.slice af' nf' cf', .slice aa' na' ca', .slice al' ns' cs']] [⟨.slice af nf cf, 1, F.map encI⟩, ⟨.slice aa na ca, 1, A.map encI⟩, ⟨.slice al ns cs, 3, S.map encSill⟩, ⟨.slice af' nf' cf', 1, F'.map encI⟩, ⟨.slice aa' na' ca', 1, A'.map encI⟩, ⟨.slice al' ns' cs', 3, S'.map encSill⟩] [] (fun r ch => r = .bool (decide (F = F') && decide (A = A') && decide (S = S')) ∧ ch = []) := by
  refine triple_start 23 Try.func27 Try.ntmps27 rfl rfl (fun w0 => ?_)
  refine kwp_seq ?_
  refine kwp_region ?_
  refine kops_step rfl (opk_box' (e := [_, _, _]) 3 rfl rfl rfl rfl (by decide) (fun p2 => ?_))
  refine kops_step rfl (opk_box' (e := [_, _, _]) 3 rfl rfl rfl rfl (by decide) (fun p3 => ?_))
  refine kops_d rfl rfl (opv_assign rfl rfl) ?_
  refine kops_nil ?_
  refine kn_then ?_
  refine kwp_seq ?_
  refine kwp_seq ?_
  refine kwp_region ?_
  refine kops_d rfl rfl (opv_fab rfl rfl fa_47_0 (by repeat (first | exact List.Mem.head _ | apply List.Mem.tail))) ?_
  refine kops_d rfl rfl (opv_load rfl rfl Try.isAgg39 (by repeat (first | exact List.Mem.head _ | apply List.Mem.tail)) (by first | rfl | exact get_map (by omega) | exact fill_get (by omega) | (simp; done)) rfl) ?_
  refine kops_d rfl rfl (opv_fab rfl rfl fa_47_0 (by repeat (first | exact List.Mem.head _ | apply List.Mem.tail))) ?_
  refine kops_d rfl rfl (opv_load rfl rfl Try.isAgg39 (by repeat (first | exact List.Mem.head _ | apply List.Mem.tail)) (by first | rfl | exact get_map (by omega) | exact fill_get (by omega) | (simp; done)) rfl) ?_
  refine kops_step rfl (opk_call rfl Try.call31 rfl (c_laws_eqIntS _ _ _ _ _ _ _ _ ⟨by omega, by omega⟩) ((perm_nil _)) (Views.cons (by repeat (first | exact List.Mem.head _ | apply List.Mem.tail)) (View.refl _) (Views.cons (by repeat (first | exact List.Mem.head _ | apply List.Mem.tail)) (View.refl _) ((Views.nil _)))) ?_)
  rintro _ _ ⟨rfl, rfl⟩
  refine kops_d rfl rfl (opv_not rfl rfl) ?_
  refine kops_nil ?_
  refine kn_then ?_
  refine kwp_cond rfl (fun hc3 => ?_) (fun hc3 => ?_)
  ·
    first | have hc3n := kb_nt hc3 | have hc3n := kb_nf hc3 | have hc3n := hc3
    first | have hc3m := of_decide_eq_true hc3n | have hc3m := of_decide_eq_false hc3n | have hc3m := kb_eq hc3n | have hc3m := kb_ne hc3n | have hc3m := kb_bne hc3n | have hc3m := kb_nbne hc3n | have hc3m := isIx_t hc3n | have hc3m := isIx_f hc3n | have hc3m := inR_t hc3n | have hc3m := inR_f hc3n | have hc3m := dec_tt hc3n | have hc3m := dec_ff hc3n | have hc3m := hc3n
    try simp only [List.get_eq_getElem] at hc3n
    try simp only [List.get_eq_getElem] at hc3m
    refine kwp_seq ?_
    refine kwp_region ?_
    refine kops_d rfl rfl (opv_assign rfl rfl) ?_
    refine kops_nil ?_
    refine kn_then ?_
    refine kwp_ret ?_
    refine kr_then ?_
    refine kret1 [] rfl rfl ?_ (by (repeat (first | exact Sub.refl _ | exact Sub.nil _ | refine Sub.chunk (by repeat (first | exact Pick.here | apply Pick.there)) (by first | rfl | (simp; done) | (congr 1; omega)) ?_)))
    exact ⟨by simp_all, rfl⟩
  ·
    first | have hc3n := kb_nt hc3 | have hc3n := kb_nf hc3 | have hc3n := hc3
    first | have hc3m := of_decide_eq_true hc3n | have hc3m := of_decide_eq_false hc3n | have hc3m := kb_eq hc3n | have hc3m := kb_ne hc3n | have hc3m := kb_bne hc3n | have hc3m := kb_nbne hc3n | have hc3m := isIx_t hc3n | have hc3m := isIx_f hc3n | have hc3m := inR_t hc3n | have hc3m := inR_f hc3n | have hc3m := dec_tt hc3n | have hc3m := dec_ff hc3n | have hc3m := hc3n
    try simp only [List.get_eq_getElem] at hc3n
    try simp only [List.get_eq_getElem] at hc3m
    refine kwp_skip ?_
    refine kn_then ?_
    refine kwp_seq ?_
    refine kwp_seq ?_
    refine kwp_region ?_
    refine kops_d rfl rfl (opv_fab rfl rfl fa_47_1 (by repeat (first | exact List.Mem.head _ | apply List.Mem.tail))) ?_
    refine kops_d rfl rfl (opv_load rfl rfl Try.isAgg39 (by repeat (first | exact List.Mem.head _ | apply List.Mem.tail)) (by first | rfl | exact get_map (by omega) | exact fill_get (by omega) | (simp; done)) rfl) ?_
    refine kops_d rfl rfl (opv_fab rfl rfl fa_47_1 (by repeat (first | exact List.Mem.head _ | apply List.Mem.tail))) ?_
    refine kops_d rfl rfl (opv_load rfl rfl Try.isAgg39 (by repeat (first | exact List.Mem.head _ | apply List.Mem.tail)) (by first | rfl | exact get_map (by omega) | exact fill_get (by omega) | (simp; done)) rfl) ?_
    refine kops_step rfl (opk_call rfl Try.call31 rfl (c_laws_eqIntS _ _ _ _ _ _ _ _ ⟨by omega, by omega⟩) ((perm_nil _)) (Views.cons (by repeat (first | exact List.Mem.head _ | apply List.Mem.tail)) (View.refl _) (Views.cons (by repeat (first | exact List.Mem.head _ | apply List.Mem.tail)) (View.refl _) ((Views.nil _)))) ?_)
    rintro _ _ ⟨rfl, rfl⟩
    refine kops_d rfl rfl (opv_not rfl rfl) ?_
    refine kops_nil ?_
    refine kn_then ?_
    refine kwp_cond rfl (fun hc6 => ?_) (fun hc6 => ?_)
    ·
      first | have hc6n := kb_nt hc6 | have hc6n := kb_nf hc6 | have hc6n := hc6
      first | have hc6m := of_decide_eq_true hc6n | have hc6m := of_decide_eq_false hc6n | have hc6m := kb_eq hc6n | have hc6m := kb_ne hc6n | have hc6m := kb_bne hc6n | have hc6m := kb_nbne hc6n | have hc6m := isIx_t hc6n | have hc6m := isIx_f hc6n | have hc6m := inR_t hc6n | have hc6m := inR_f hc6n | have hc6m := dec_tt hc6n | have hc6m := dec_ff hc6n | have hc6m := hc6n
      try simp only [List.get_eq_getElem] at hc6n
      try simp only [List.get_eq_getElem] at hc6m
      refine kwp_seq ?_
      refine kwp_region ?_
      refine kops_d rfl rfl (opv_assign rfl rfl) ?_
      refine kops_nil ?_
      refine kn_then ?_
      refine kwp_ret ?_
      refine kr_then ?_
      refine kret1 [] rfl rfl ?_ (by (repeat (first | exact Sub.refl _ | exact Sub.nil _ | refine Sub.chunk (by repeat (first | exact Pick.here | apply Pick.there)) (by first | rfl | (simp; done) | (congr 1; omega)) ?_)))
      exact ⟨by simp_all, rfl⟩
    ·
      first | have hc6n := kb_nt hc6 | have hc6n := kb_nf hc6 | have hc6n := hc6
      first | have hc6m := of_decide_eq_true hc6n | have hc6m := of_decide_eq_false hc6n | have hc6m := kb_eq hc6n | have hc6m := kb_ne hc6n | have hc6m := kb_bne hc6n | have hc6m := kb_nbne hc6n | have hc6m := isIx_t hc6n | have hc6m := isIx_f hc6n | have hc6m := inR_t hc6n | have hc6m := inR_f hc6n | have hc6m := dec_tt hc6n | have hc6m := dec_ff hc6n | have hc6m := hc6n
      try simp only [List.get_eq_getElem] at hc6n
      try simp only [List.get_eq_getElem] at hc6m
      refine kwp_skip ?_
      refine kn_then ?_
      refine kwp_seq ?_
      refine kwp_seq ?_
      refine kwp_region ?_
      refine kops_d rfl rfl (opv_fab rfl rfl fa_47_2 (by repeat (first | exact List.Mem.head _ | apply List.Mem.tail))) ?_
      refine kops_d rfl rfl (opv_load rfl rfl Try.isAgg45 (by repeat (first | exact List.Mem.head _ | apply List.Mem.tail)) (by first | rfl | exact get_map (by omega) | exact fill_get (by omega) | (simp; done)) rfl) ?_
      refine kops_d rfl rfl (opv_fab rfl rfl fa_47_2 (by repeat (first | exact List.Mem.head _ | apply List.Mem.tail))) ?_
      refine kops_d rfl rfl (opv_load rfl rfl Try.isAgg45 (by repeat (first | exact List.Mem.head _ | apply List.Mem.tail)) (by first | rfl | exact get_map (by omega) | exact fill_get (by omega) | (simp; done)) rfl) ?_
      refine kops_step rfl (opk_call rfl Try.call65 rfl (c_laws_eqSillS _ _ _ _ _ _ S S' ⟨by omega, by omega⟩) ((perm_nil _)) (Views.cons (by repeat (first | exact List.Mem.head _ | apply List.Mem.tail)) (View.refl _) (Views.cons (by repeat (first | exact List.Mem.head _ | apply List.Mem.tail)) (View.refl _) ((Views.nil _)))) ?_)
      rintro _ _ ⟨rfl, rfl⟩
      refine kops_d rfl rfl (opv_not rfl rfl) ?_
      refine kops_nil ?_
      refine kn_then ?_
      refine kwp_cond rfl (fun hc9 => ?_) (fun hc9 => ?_)
      ·
        first | have hc9n := kb_nt hc9 | have hc9n := kb_nf hc9 | have hc9n := hc9
        first | have hc9m := of_decide_eq_true hc9n | have hc9m := of_decide_eq_false hc9n | have hc9m := kb_eq hc9n | have hc9m := kb_ne hc9n | have hc9m := kb_bne hc9n | have hc9m := kb_nbne hc9n | have hc9m := isIx_t hc9n | have hc9m := isIx_f hc9n | have hc9m := inR_t hc9n | have hc9m := inR_f hc9n | have hc9m := dec_tt hc9n | have hc9m := dec_ff hc9n | have hc9m := hc9n
        try simp only [List.get_eq_getElem] at hc9n
        try simp only [List.get_eq_getElem] at hc9m
        refine kwp_seq ?_
        refine kwp_region ?_
        refine kops_d rfl rfl (opv_assign rfl rfl) ?_
        refine kops_nil ?_
        refine kn_then ?_
        refine kwp_ret ?_
        refine kr_then ?_
        refine kret1 [] rfl rfl ?_ (by (repeat (first | exact Sub.refl _ | exact Sub.nil _ | refine Sub.chunk (by repeat (first | exact Pick.here | apply Pick.there)) (by first | rfl | (simp; done) | (congr 1; omega)) ?_)))
        exact ⟨by simp_all, rfl⟩
      ·
        first | have hc9n := kb_nt hc9 | have hc9n := kb_nf hc9 | have hc9n := hc9
        first | have hc9m := of_decide_eq_true hc9n | have hc9m := of_decide_eq_false hc9n | have hc9m := kb_eq hc9n | have hc9m := kb_ne hc9n | have hc9m := kb_bne hc9n | have hc9m := kb_nbne hc9n | have hc9m := isIx_t hc9n | have hc9m := isIx_f hc9n | have hc9m := inR_t hc9n | have hc9m := inR_f hc9n | have hc9m := dec_tt hc9n | have hc9m := dec_ff hc9n | have hc9m := hc9n
        try simp only [List.get_eq_getElem] at hc9n
        try simp only [List.get_eq_getElem] at hc9m
        refine kwp_skip ?_
        refine kn_then ?_
        refine kwp_seq ?_
        refine kwp_region ?_
        refine kops_d rfl rfl (opv_assign rfl rfl) ?_
        refine kops_nil ?_
        refine kn_then ?_
        refine kwp_ret ?_
        refine kret1 [] rfl rfl ?_ (by (repeat (first | exact Sub.refl _ | exact Sub.nil _ | refine Sub.chunk (by repeat (first | exact Pick.here | apply Pick.there)) (by first | rfl | (simp; done) | (congr 1; omega)) ?_)))
        exact ⟨by simp_all, rfl⟩

end Go.Proofs.Ytfgialdcilldiaa
