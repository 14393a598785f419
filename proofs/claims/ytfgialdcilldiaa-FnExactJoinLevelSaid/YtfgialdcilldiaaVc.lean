/- What the plain programs return, the functions of the program return; no condition. -/
import Derived.Test.YtfgialdcilldiaaQc
import Derived.Test.YtfgialdcilldiaaFa
import Derived.Test.YtfgialdcilldiaaVi
import Derived.Test.YtfgialdcilldiaaVs
namespace Go.Proofs.Ytfgialdcilldiaa
open Go
set_option linter.unusedVariables false
set_option linter.unusedSimpArgs false

set_option maxRecDepth 20000 in
theorem w_laws_szCave (a00a : Option Addr) (a00n : Nat) (a00c : Nat) (a01a : Option Addr) (a01n : Nat) (a01c : Nat) (a02a : Option Addr) (a02n : Nat) (a02c : Nat) {a0 : Cave} {left0 : Int} {r : Int} (h : p_laws_szCave a0 left0 = some r) :
    Triple Try.prog 23 [.agg #[.slice a00a a00n a00c, .slice a01a a01n a01c, .slice a02a a02n a02c], .int .i64 left0] [⟨.slice a00a a00n a00c, 1, a0.fl.map encI⟩, ⟨.slice a01a a01n a01c, 1, a0.ar.map encI⟩, ⟨.slice a02a a02n a02c, 3, a0.si.map encSill⟩] [] (fun v ch => v = .int .i64 r ∧ ch = []) := by
  refine triple_start 24 Try.func23 Try.ntmps23 rfl rfl (fun w0 => ?_)
  refine k_len (c := a00c) (fun hl1 => ?_)
  subst hl1
  refine k_len (c := a01c) (fun hl2 => ?_)
  subst hl2
  refine k_len (c := a02c) (fun hl3 => ?_)
  subst hl3
  unfold p_laws_szCave at h
  refine kwp_seq ?_
  refine kwp_region ?_
  refine kk (n_box (e := [.slice a00a a0.fl.length a00c, .slice a01a a0.ar.length a01c, .slice a02a a0.si.length a02c]) 3 (fun p2_4 => ?_))
  refine kd (v_as) ?_
  refine kops_nil ?_
  refine kn_then ?_
  refine kwp_seq ?_
  refine kwp_region ?_
  refine kd (v_fb fa_42_0) ?_
  refine kd (v_ldb Try.isAgg39) ?_
  refine kd (v_mv) ?_
  obtain ⟨v6, hv5, h⟩ := e_bind h
  refine kk (n_call Try.call62 (w_laws_szIntS a00a a0.fl.length a00c hv5) ?_)
  rintro _ _ ⟨rfl, rfl⟩
  refine kd (v_as) ?_
  refine kops_nil ?_
  refine kn_then ?_
  refine kwp_seq ?_
  refine kwp_seq ?_
  refine kwp_region ?_
  refine kd (v_mv) ?_
  refine kd (v_cmp) ?_
  refine kops_nil ?_
  refine kn_then ?_
  refine kwp_cond rfl (fun hc8 => ?_) (fun hc8 => ?_)
  ·
    replace h := e_t h hc8
    refine kwp_seq ?_
    refine kwp_region ?_
    refine kd (v_as) ?_
    refine kops_nil ?_
    refine kn_then ?_
    refine kwp_ret ?_
    refine kr_then ?_
    obtain rfl := e_some h
    refine r1 [] ?_
    exact ⟨rfl, rfl⟩
  ·
    replace h := e_f h hc8
    refine kwp_skip ?_
    refine kn_then ?_
    refine kwp_seq ?_
    refine kwp_region ?_
    refine kd (v_fb fa_42_1) ?_
    refine kd (v_ldb Try.isAgg39) ?_
    refine kd (v_mv) ?_
    obtain ⟨v10, hv9, h⟩ := e_bind h
    refine kk (n_call Try.call62 (w_laws_szIntS a01a a0.ar.length a01c hv9) ?_)
    rintro _ _ ⟨rfl, rfl⟩
    refine kd (v_as) ?_
    refine kops_nil ?_
    refine kn_then ?_
    refine kwp_seq ?_
    refine kwp_seq ?_
    refine kwp_region ?_
    refine kd (v_mv) ?_
    refine kd (v_cmp) ?_
    refine kops_nil ?_
    refine kn_then ?_
    refine kwp_cond rfl (fun hc12 => ?_) (fun hc12 => ?_)
    ·
      replace h := e_t h hc12
      refine kwp_seq ?_
      refine kwp_region ?_
      refine kd (v_as) ?_
      refine kops_nil ?_
      refine kn_then ?_
      refine kwp_ret ?_
      refine kr_then ?_
      obtain rfl := e_some h
      refine r1 [] ?_
      exact ⟨rfl, rfl⟩
    ·
      replace h := e_f h hc12
      refine kwp_skip ?_
      refine kn_then ?_
      refine kwp_seq ?_
      refine kwp_region ?_
      refine kd (v_fb fa_42_2) ?_
      refine kd (v_ldb Try.isAgg40) ?_
      refine kd (v_mv) ?_
      obtain ⟨v14, hv13, h⟩ := e_bind h
      refine kk (n_call Try.call63 (w_laws_szSillS a02a a0.si.length a02c hv13) ?_)
      rintro _ _ ⟨rfl, rfl⟩
      refine kd (v_as) ?_
      refine kops_nil ?_
      refine kn_then ?_
      refine kwp_seq ?_
      refine kwp_seq ?_
      refine kwp_region ?_
      refine kd (v_mv) ?_
      refine kd (v_cmp) ?_
      refine kops_nil ?_
      refine kn_then ?_
      refine kwp_cond rfl (fun hc16 => ?_) (fun hc16 => ?_)
      ·
        replace h := e_t h hc16
        refine kwp_seq ?_
        refine kwp_region ?_
        refine kd (v_as) ?_
        refine kops_nil ?_
        refine kn_then ?_
        refine kwp_ret ?_
        refine kr_then ?_
        obtain rfl := e_some h
        refine r1 [] ?_
        exact ⟨rfl, rfl⟩
      ·
        replace h := e_f h hc16
        refine kwp_skip ?_
        refine kn_then ?_
        refine kwp_seq ?_
        refine kwp_region ?_
        refine kd (v_mv) ?_
        refine kd (v_as) ?_
        refine kops_nil ?_
        refine kn_then ?_
        refine kwp_ret ?_
        obtain rfl := e_some h
        refine r1 [] ?_
        exact ⟨rfl, rfl⟩

set_option maxRecDepth 20000 in
theorem w_laws_toCave (a00a : Option Addr) (a00n : Nat) (a00c : Nat) (a01a : Option Addr) (a01n : Nat) (a01c : Nat) (a02a : Option Addr) (a02n : Nat) (a02c : Nat) {a0 : Cave} {r : Cave} (h : p_laws_toCave a0 = some r) :
    Triple Try.prog 25 [.agg #[.slice a00a a00n a00c, .slice a01a a01n a01c, .slice a02a a02n a02c]] [⟨.slice a00a a00n a00c, 1, a0.fl.map encI⟩, ⟨.slice a01a a01n a01c, 1, a0.ar.map encI⟩, ⟨.slice a02a a02n a02c, 3, a0.si.map encSill⟩] [] (fun v ch => ∃ (w00a : Option Addr) (w00c : Nat) (w01a : Option Addr) (w01c : Nat) (w02a : Option Addr) (w02c : Nat), v = .agg #[.slice w00a r.fl.length w00c, .slice w01a r.ar.length w01c, .slice w02a r.si.length w02c] ∧ ch = [⟨.slice w00a r.fl.length w00c, 1, r.fl.map encI⟩, ⟨.slice w01a r.ar.length w01c, 1, r.ar.map encI⟩, ⟨.slice w02a r.si.length w02c, 3, r.si.map encSill⟩]) := by
  refine triple_start 17 Try.func25 Try.ntmps25 rfl rfl (fun w0 => ?_)
  refine k_len (c := a00c) (fun hl1 => ?_)
  subst hl1
  refine k_len (c := a01c) (fun hl2 => ?_)
  subst hl2
  refine k_len (c := a02c) (fun hl3 => ?_)
  subst hl3
  unfold p_laws_toCave at h
  refine kwp_seq ?_
  refine kwp_region ?_
  refine kk (n_box (e := [.slice a00a a0.fl.length a00c, .slice a01a a0.ar.length a01c, .slice a02a a0.si.length a02c]) 3 (fun p1_4 => ?_))
  refine kops_nilchunk 1 (by decide) ?_
  refine kops_nilchunk 1 (by decide) ?_
  refine kops_nilchunk 3 (by decide) ?_
  refine kk (n_alloc (e := [.slice none 0 0, .slice none 0 0, .slice none 0 0]) 3 Try.zeroValue47 (fun p2_5 => ?_))
  refine kops_nil ?_
  refine kn_then ?_
  refine kwp_seq ?_
  refine kwp_region ?_
  refine kops_nilchunk 1 (by decide) ?_
  refine kops_nilchunk 1 (by decide) ?_
  refine kops_nilchunk 3 (by decide) ?_
  refine kk (n_alloc (e := [.slice none 0 0, .slice none 0 0, .slice none 0 0]) 3 Try.zeroValue47 (fun p3_6 => ?_))
  refine kops_nil ?_
  refine kn_then ?_
  refine kwp_seq ?_
  refine kwp_region ?_
  refine kd (v_fb fa_42_0) ?_
  refine kd (v_ldb Try.isAgg39) ?_
  obtain ⟨v8, hv7, h⟩ := e_bind h
  refine kk (n_call Try.call29 (w_laws_toIntS a00a a0.fl.length a00c hv7) ?_)
  rintro _ _ ⟨q9a, q9c, rfl, rfl⟩
  refine kd (v_fb fa_47_0) ?_
  refine kk (s_b (e' := [.slice q9a v8.length q9c, .slice none 0 0, .slice none 0 0]) Try.sizeOf39 ?_)
  refine kops_nil ?_
  refine kn_then ?_
  refine kwp_seq ?_
  refine kwp_region ?_
  refine kd (v_fb fa_42_1) ?_
  refine kd (v_ldb Try.isAgg39) ?_
  obtain ⟨v11, hv10, h⟩ := e_bind h
  refine kk (n_call Try.call29 (w_laws_toIntS a01a a0.ar.length a01c hv10) ?_)
  rintro _ _ ⟨q12a, q12c, rfl, rfl⟩
  refine kd (v_fb fa_47_1) ?_
  refine kk (s_b (e' := [.slice q9a v8.length q9c, .slice q12a v11.length q12c, .slice none 0 0]) Try.sizeOf39 ?_)
  refine kops_nil ?_
  refine kn_then ?_
  refine kwp_seq ?_
  refine kwp_region ?_
  refine kd (v_fb fa_42_2) ?_
  refine kd (v_ldb Try.isAgg40) ?_
  obtain ⟨v14, hv13, h⟩ := e_bind h
  refine kk (n_call Try.call64 (w_laws_toSillS a02a a0.si.length a02c hv13) ?_)
  rintro _ _ ⟨q15a, q15c, rfl, rfl⟩
  refine kd (v_fb fa_47_2) ?_
  refine kk (s_b (e' := [.slice q9a v8.length q9c, .slice q12a v11.length q12c, .slice q15a v14.length q15c]) Try.sizeOf45 ?_)
  refine kops_nil ?_
  refine kn_then ?_
  refine kwp_seq ?_
  refine kwp_region ?_
  refine kd (v_ldB Try.isAgg47 Try.sizeOf47) ?_
  refine kk (s_B (e' := [.slice q9a v8.length q9c, .slice q12a v11.length q12c, .slice q15a v14.length q15c]) Try.sizeOf47 ?_)
  refine kops_nil ?_
  refine kn_then ?_
  refine kwp_ret ?_
  obtain rfl := e_some h
  refine rc Try.isAgg47 Try.sizeOf47 [⟨.slice q9a v8.length q9c, 1, v8.map encI⟩, ⟨.slice q12a v11.length q12c, 1, v11.map encI⟩, ⟨.slice q15a v14.length q15c, 3, v14.map encSill⟩] ?_
  exact ⟨q9a, q9c, q12a, q12c, q15a, q15c, rfl, rfl⟩

set_option maxRecDepth 20000 in
theorem w_laws_eqCave (a00a : Option Addr) (a00n : Nat) (a00c : Nat) (a01a : Option Addr) (a01n : Nat) (a01c : Nat) (a02a : Option Addr) (a02n : Nat) (a02c : Nat) (b00a : Option Addr) (b00n : Nat) (b00c : Nat) (b01a : Option Addr) (b01n : Nat) (b01c : Nat) (b02a : Option Addr) (b02n : Nat) (b02c : Nat) {a0 : Cave} {b0 : Cave} {r : Bool} (h : p_laws_eqCave a0 b0 = some r) :
    Triple Try.prog 27 [.agg #[.slice a00a a00n a00c, .slice a01a a01n a01c, .slice a02a a02n a02c], .agg #[.slice b00a b00n b00c, .slice b01a b01n b01c, .slice b02a b02n b02c]] [⟨.slice a00a a00n a00c, 1, a0.fl.map encI⟩, ⟨.slice a01a a01n a01c, 1, a0.ar.map encI⟩, ⟨.slice a02a a02n a02c, 3, a0.si.map encSill⟩, ⟨.slice b00a b00n b00c, 1, b0.fl.map encI⟩, ⟨.slice b01a b01n b01c, 1, b0.ar.map encI⟩, ⟨.slice b02a b02n b02c, 3, b0.si.map encSill⟩] [] (fun v ch => v = .bool r ∧ ch = []) := by
  refine triple_start 23 Try.func27 Try.ntmps27 rfl rfl (fun w0 => ?_)
  refine k_len (c := a00c) (fun hl1 => ?_)
  subst hl1
  refine k_len (c := a01c) (fun hl2 => ?_)
  subst hl2
  refine k_len (c := a02c) (fun hl3 => ?_)
  subst hl3
  refine k_len (c := b00c) (fun hl4 => ?_)
  subst hl4
  refine k_len (c := b01c) (fun hl5 => ?_)
  subst hl5
  refine k_len (c := b02c) (fun hl6 => ?_)
  subst hl6
  unfold p_laws_eqCave at h
  refine kwp_seq ?_
  refine kwp_region ?_
  refine kk (n_box (e := [.slice a00a a0.fl.length a00c, .slice a01a a0.ar.length a01c, .slice a02a a0.si.length a02c]) 3 (fun p2_7 => ?_))
  refine kk (n_box (e := [.slice b00a b0.fl.length b00c, .slice b01a b0.ar.length b01c, .slice b02a b0.si.length b02c]) 3 (fun p3_8 => ?_))
  refine kd (v_as) ?_
  refine kops_nil ?_
  refine kn_then ?_
  refine kwp_seq ?_
  refine kwp_seq ?_
  refine kwp_region ?_
  refine kd (v_fb fa_47_0) ?_
  refine kd (v_ldb Try.isAgg39) ?_
  refine kd (v_fb fa_47_0) ?_
  refine kd (v_ldb Try.isAgg39) ?_
  obtain ⟨v10, hv9, h⟩ := e_bind h
  refine kk (n_call Try.call31 (w_laws_eqIntS a00a a0.fl.length a00c b00a b0.fl.length b00c hv9) ?_)
  rintro _ _ ⟨rfl, rfl⟩
  refine kd (v_not) ?_
  refine kops_nil ?_
  refine kn_then ?_
  refine kwp_cond rfl (fun hc12 => ?_) (fun hc12 => ?_)
  ·
    replace h := e_t h hc12
    refine kwp_seq ?_
    refine kwp_region ?_
    refine kd (v_as) ?_
    refine kops_nil ?_
    refine kn_then ?_
    refine kwp_ret ?_
    refine kr_then ?_
    obtain rfl := e_some h
    refine r1 [] ?_
    exact ⟨rfl, rfl⟩
  ·
    replace h := e_f h hc12
    refine kwp_skip ?_
    refine kn_then ?_
    refine kwp_seq ?_
    refine kwp_seq ?_
    refine kwp_region ?_
    refine kd (v_fb fa_47_1) ?_
    refine kd (v_ldb Try.isAgg39) ?_
    refine kd (v_fb fa_47_1) ?_
    refine kd (v_ldb Try.isAgg39) ?_
    obtain ⟨v14, hv13, h⟩ := e_bind h
    refine kk (n_call Try.call31 (w_laws_eqIntS a01a a0.ar.length a01c b01a b0.ar.length b01c hv13) ?_)
    rintro _ _ ⟨rfl, rfl⟩
    refine kd (v_not) ?_
    refine kops_nil ?_
    refine kn_then ?_
    refine kwp_cond rfl (fun hc16 => ?_) (fun hc16 => ?_)
    ·
      replace h := e_t h hc16
      refine kwp_seq ?_
      refine kwp_region ?_
      refine kd (v_as) ?_
      refine kops_nil ?_
      refine kn_then ?_
      refine kwp_ret ?_
      refine kr_then ?_
      obtain rfl := e_some h
      refine r1 [] ?_
      exact ⟨rfl, rfl⟩
    ·
      replace h := e_f h hc16
      refine kwp_skip ?_
      refine kn_then ?_
      refine kwp_seq ?_
      refine kwp_seq ?_
      refine kwp_region ?_
      refine kd (v_fb fa_47_2) ?_
      refine kd (v_ldb Try.isAgg45) ?_
      refine kd (v_fb fa_47_2) ?_
      refine kd (v_ldb Try.isAgg45) ?_
      obtain ⟨v18, hv17, h⟩ := e_bind h
      refine kk (n_call Try.call65 (w_laws_eqSillS a02a a0.si.length a02c b02a b0.si.length b02c hv17) ?_)
      rintro _ _ ⟨rfl, rfl⟩
      refine kd (v_not) ?_
      refine kops_nil ?_
      refine kn_then ?_
      refine kwp_cond rfl (fun hc20 => ?_) (fun hc20 => ?_)
      ·
        replace h := e_t h hc20
        refine kwp_seq ?_
        refine kwp_region ?_
        refine kd (v_as) ?_
        refine kops_nil ?_
        refine kn_then ?_
        refine kwp_ret ?_
        refine kr_then ?_
        obtain rfl := e_some h
        refine r1 [] ?_
        exact ⟨rfl, rfl⟩
      ·
        replace h := e_f h hc20
        refine kwp_skip ?_
        refine kn_then ?_
        refine kwp_seq ?_
        refine kwp_region ?_
        refine kd (v_as) ?_
        refine kops_nil ?_
        refine kn_then ?_
        refine kwp_ret ?_
        obtain rfl := e_some h
        refine r1 [] ?_
        exact ⟨rfl, rfl⟩

set_option maxRecDepth 20000 in
theorem w_laws_markCave (a00a : Option Addr) (a00n : Nat) (a00c : Nat) (a01a : Option Addr) (a01n : Nat) (a01c : Nat) (a02a : Option Addr) (a02n : Nat) (a02c : Nat) {a0 : Cave} {k0 : Int} {r : Int × List Int × List Int × List Sill} (h : p_laws_markCave a0 k0 = some r) :
    Triple Try.prog 53 [.agg #[.slice a00a a00n a00c, .slice a01a a01n a01c, .slice a02a a02n a02c], .int .i64 k0] [] [⟨.slice a00a a00n a00c, 1, a0.fl.map encI⟩, ⟨.slice a01a a01n a01c, 1, a0.ar.map encI⟩, ⟨.slice a02a a02n a02c, 3, a0.si.map encSill⟩] (fun v ch => v = .int .i64 r.1 ∧ ch = [⟨.slice a00a a00n a00c, 1, r.2.1.map encI⟩, ⟨.slice a01a a01n a01c, 1, r.2.2.1.map encI⟩, ⟨.slice a02a a02n a02c, 3, r.2.2.2.map encSill⟩]) := by
  refine triple_start 18 Try.func53 Try.ntmps53 rfl rfl (fun w0 => ?_)
  refine k_len (c := a00c) (fun hl1 => ?_)
  subst hl1
  refine k_len (c := a01c) (fun hl2 => ?_)
  subst hl2
  refine k_len (c := a02c) (fun hl3 => ?_)
  subst hl3
  unfold p_laws_markCave at h
  refine kwp_seq ?_
  refine kwp_region ?_
  refine kk (n_box (e := [.slice a00a a0.fl.length a00c, .slice a01a a0.ar.length a01c, .slice a02a a0.si.length a02c]) 3 (fun p2_4 => ?_))
  refine kd (v_as) ?_
  refine kops_nil ?_
  refine kn_then ?_
  refine kwp_seq ?_
  refine kwp_region ?_
  refine kd (v_fb fa_47_0) ?_
  refine kd (v_ldb Try.isAgg39) ?_
  refine kd (v_mv) ?_
  obtain ⟨⟨v6, v7⟩, hv5, h⟩ := e_bind h
  refine kk (n_call Try.call54 (w_laws_markIntS a00a a0.fl.length a00c hv5) ?_)
  rintro _ _ ⟨rfl, rfl⟩
  refine kd (v_as) ?_
  refine kops_nil ?_
  refine kn_then ?_
  refine kwp_seq ?_
  refine kwp_region ?_
  refine kd (v_fb fa_47_1) ?_
  refine kd (v_ldb Try.isAgg39) ?_
  refine kd (v_mv) ?_
  obtain ⟨⟨v10, v11⟩, hv9, h⟩ := e_bind h
  refine kk (n_call Try.call54 (w_laws_markIntS a01a a0.ar.length a01c hv9) ?_)
  rintro _ _ ⟨rfl, rfl⟩
  refine kd (v_as) ?_
  refine kops_nil ?_
  refine kn_then ?_
  refine kwp_seq ?_
  refine kwp_region ?_
  refine kd (v_fb fa_47_2) ?_
  refine kd (v_ldb Try.isAgg45) ?_
  refine kd (v_mv) ?_
  obtain ⟨⟨v14, v15⟩, hv13, h⟩ := e_bind h
  refine kk (n_call Try.call79 (w_laws_markSillS a02a a0.si.length a02c hv13) ?_)
  rintro _ _ ⟨rfl, rfl⟩
  refine kd (v_as) ?_
  refine kops_nil ?_
  refine kn_then ?_
  refine kwp_seq ?_
  refine kwp_region ?_
  refine kd (v_mv) ?_
  refine kd (v_as) ?_
  refine kops_nil ?_
  refine kn_then ?_
  refine kwp_ret ?_
  obtain rfl := e_some h
  refine r1 [⟨.slice a00a (a0.fl.length) a00c, 1, v7.map encI⟩, ⟨.slice a01a (a0.ar.length) a01c, 1, v11.map encI⟩, ⟨.slice a02a (a0.si.length) a02c, 3, v15.map encSill⟩] ?_
  exact ⟨rfl, rfl⟩

end Go.Proofs.Ytfgialdcilldiaa
