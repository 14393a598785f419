/- The laws of the pools, as plain programs; no condition but the sizes. -/
import Derived.Test.YtfgialdcilldiaaLp
import Derived.Test.YtfgialdcilldiaaQ1PoolsAt
import Derived.Test.YtfgialdcilldiaaQ1JoinLevel
namespace Go.Proofs.Ytfgialdcilldiaa
open Go
set_option linter.unusedVariables false
set_option linter.unusedSimpArgs false

theorem pools_small {c : Cave} {level : Int} : (pools c level).length ≤ 6 := by
  unfold pools
  split
  · rename_i h; rw [jns_len]; exact h.n6
  · exact Nat.zero_le _
theorem l_implPoolsAt {c : Cave} {level : Int} : p_impl_PoolsAt c level = some (pools c level) := by
  unfold p_impl_PoolsAt
  have hcc : (⟨c.fl, c.ar, c.si⟩ : Cave) = c := rfl
  rw [hcc, l_implCaveValid, Option.bind_some]
  by_cases hc : CaveOk c
  · rw [dcl_t hc]
    have n6 := hc.n6; have s9 := hc.s9
    simp only [Bool.not_true, cond_false]
    rw [l_ownParts (by omega), Option.bind_some]
    have := loop_stop (B := p_impl_PoolsAt_L0 c level) (fun k => ((k : Int), jns c (useTo c level k))) c.si.length (e := jns c (useTo c level c.si.length)) (fun k hk => by
      have hs := hc.si _ hk
      have hs1 := hs.a0; have hs2 := hs.a1; have hs3 := hs.b0; have hs4 := hs.b1
      simp only [p_impl_PoolsAt_L0]
      rw [decide_eq_true (by omega), cond_true, idx_at hk, w64_succ (by omega), useTo_succ]
      by_cases h : (gx c.si k).high ≤ level
      · rw [decide_eq_true h, cond_true, if_pos h]
        obtain ⟨v, hv⟩ := l_joinParts (p := jns c (useTo c level k)) (a := (gx c.si k).a) (b := (gx c.si k).b) (by rw [jns_len]; omega) (by rw [jns_len]; omega) (by rw [jns_len]; omega)
        rw [hv, Option.bind_some, jns_snoc]
      · rw [decide_eq_false h, cond_false, if_neg h]) (by
      simp only [p_impl_PoolsAt_L0]
      rw [decide_eq_false (by omega)]; rfl)
    rw [show ((0 : Int), own c.fl.length) = (((0 : Nat) : Int), jns c (useTo c level 0)) from rfl, this]
    simp only [Option.bind_some]
    rw [pools, if_pos hc]
  · rw [dcl_f hc, pools, if_neg hc]; rfl
theorem l_specPoolsAt {c : Cave} {level : Int} : p_spec_PoolsAt c level = some (pools c level) := by
  unfold p_spec_PoolsAt
  have hcc : (⟨c.fl, c.ar, c.si⟩ : Cave) = c := rfl
  rw [hcc, l_specCaveValid, Option.bind_some]
  by_cases hc : CaveOk c
  · rw [dcl_t hc]
    have n6 := hc.n6; have s9 := hc.s9
    simp only [Bool.not_true, cond_false]
    have := loop_stop (B := p_spec_PoolsAt_L0 c level) (fun k => ((useTo c level k).map (fun u : Nat => (u : Int)), (k : Int))) c.si.length (e := (useTo c level c.si.length).map fun u : Nat => (u : Int)) (fun k hk => by
      have hu := useTo_le (c := c) (level := level) (k := k)
      simp only [p_spec_PoolsAt_L0]
      rw [decide_eq_true (by omega), cond_true, idx_at hk, w64_succ (by omega), useTo_succ]
      by_cases h : (gx c.si k).high ≤ level
      · rw [decide_eq_true h, cond_true, if_pos h, need_of (by simp; omega), List.map_append]; rfl
      · rw [decide_eq_false h, cond_false, if_neg h]) (by
      simp only [p_spec_PoolsAt_L0]
      rw [decide_eq_false (by omega)]; rfl)
    rw [show (([] : List Int), (0 : Int)) = ((useTo c level 0).map (fun u : Nat => (u : Int)), ((0 : Nat) : Int)) from rfl, this, Option.bind_some,
      l_l4Parts hc (by have := useTo_le (c := c) (level := level) (k := c.si.length); omega) (fun k hk => useTo_lt hk), Option.bind_some, pools, if_pos hc]
  · rw [dcl_f hc, pools, if_neg hc]; rfl
theorem l_FnExactPoolsAt {a : Cave} {level : Int} (h1 : a.fl.length ≤ 9223372036854775807) (h2 : a.ar.length ≤ 9223372036854775807) (h3 : a.si.length ≤ 9223372036854775807) : p_laws_FnExactPoolsAt a level = some true := by
  unfold p_laws_FnExactPoolsAt
  have hcc : (⟨a.fl, a.ar, a.si⟩ : Cave) = a := rfl
  obtain ⟨x, hx, hs⟩ := l_szCave h1 h2 h3
  rw [hcc, hx]
  simp only [Option.bind_some]
  rcases hs with hs | hs
  · rw [decide_eq_true hs]; rfl
  by_cases hx0 : x < 0
  · rw [decide_eq_true hx0]; rfl
  rw [decide_eq_false hx0]
  have hp := pools_small (c := a) (level := level)
  obtain ⟨m, y, hm, m0, m1⟩ := l_markCave (a := a) (k0 := 1) hs (by decide) (by decide)
  obtain ⟨y1, y2, y3⟩ := y
  simp only [cond_false, l_toCave hs, Option.bind_some, l_specPoolsAt, l_implPoolsAt, hcc, l_eqIntS (a := pools a level) (b := pools a level) (by omega), decide_true, Bool.not_true, l_eqCave hs, hm]
  rw [decide_eq_false (by omega)]
  simp only [cond_false, Option.bind_some, l_markIntS (a := pools a level) (k0 := 1) (by omega) (by decide) (by decide), l_heldIntS (n := (pools a level).length) (k0 := 1) (by omega) (by decide) (by decide), bne_self_eq_false]
  rw [decide_eq_false (by omega)]
  rfl

/-! ### The level at which two pools join -/
theorem join_run {c : Cave} (hc : CaveOk c) {a b : Int} (ha : 0 ≤ a ∧ a < c.fl.length) (hb : 0 ≤ b ∧ b < c.fl.length) : ∃ e, loop (p_impl_JoinLevel_L0 c a b) 0 = some e := by
  obtain ⟨e, he, _⟩ := loop_inv (B := p_impl_JoinLevel_L0 c a b) (fun x => 0 ≤ x ∧ x ≤ 41) (fun x => (41 - x).toNat) (Q := fun _ => True) (fun x hx => by
    simp only [p_impl_JoinLevel_L0]
    by_cases h : x < 41
    · rw [decide_eq_true h, cond_true, show (⟨c.fl, c.ar, c.si⟩ : Cave) = c from rfl, l_implPoolsAt, Option.bind_some]
      have hl : (pools c x).length = c.fl.length := by unfold pools; rw [if_pos hc, jns_len]
      rw [idx_of (by omega), idx_of (by omega), beq_dec]
      cases decide (gx (pools c x) a.toNat = gx (pools c x) b.toNat) with
      | true => exact ⟨_, rfl, trivial⟩
      | false =>
        refine ⟨_, rfl, ?_⟩
        simp only
        rw [w64_in (by omega) (by omega)]; omega
    · rw [decide_eq_false h]; exact ⟨_, rfl, trivial⟩) (s := (0 : Int)) (by omega)
  exact ⟨e, he⟩
theorem join_same {c : Cave} {a b : Int} : p_spec_JoinLevel_L0 c a b = p_impl_JoinLevel_L0 c a b := by
  funext x
  simp only [p_spec_JoinLevel_L0, p_impl_JoinLevel_L0, l_specPoolsAt, l_implPoolsAt]
  have : decide (x ≤ 40) = decide (x < 41) := by rw [decide_eq_decide]; omega
  rw [this]
theorem join_eq {c : Cave} (hc : CaveOk c) {a : Int} (ha : 0 ≤ a ∧ a < c.fl.length) : loop (p_impl_JoinLevel_L0 c a a) 0 = some (.inr 0) := by
  refine loop_out ?_
  simp only [p_impl_JoinLevel_L0]
  have hl : (pools c 0).length = c.fl.length := by unfold pools; rw [if_pos hc, jns_len]
  rw [decide_eq_true (by decide), cond_true, show (⟨c.fl, c.ar, c.si⟩ : Cave) = c from rfl, l_implPoolsAt, Option.bind_some, idx_of (by omega), idx_of (by omega), beq_dec, decide_eq_true rfl]; rfl
theorem l_JoinLevel {c : Cave} {a b : Int} (hn : c.fl.length ≤ 1048576) : ∃ e, p_impl_JoinLevel c a b = some e ∧ p_spec_JoinLevel c a b = some e := by
  unfold p_impl_JoinLevel p_spec_JoinLevel
  have hcc : (⟨c.fl, c.ar, c.si⟩ : Cave) = c := rfl
  rw [hcc, l_implCaveValid, l_specCaveValid, w64_in (by omega) (by omega)]
  simp only [Option.bind_some]
  by_cases hc : CaveOk c
  · rw [dcl_t hc]
    simp only [Bool.not_true, cond_false, l_isIndex]
    by_cases ha : 0 ≤ a ∧ a < c.fl.length
    · rw [decide_eq_true ha.1, decide_eq_true ha.2, in_t (by omega)]
      simp only [Bool.and_self, Option.bind_some, Bool.not_true, cond_false]
      by_cases hb : 0 ≤ b ∧ b < c.fl.length
      · rw [decide_eq_true hb.1, decide_eq_true hb.2, in_t (by omega), join_same]
        simp only [Bool.and_self, Option.bind_some, Bool.not_true, cond_false]
        by_cases e : a = b
        · subst e
          rw [join_eq hc ha, beq_dec, decide_eq_true rfl]; exact ⟨_, rfl, rfl⟩
        · rw [beq_dec, decide_eq_false e]
          obtain ⟨e, he⟩ := join_run hc ha hb
          rw [he]
          cases e with
          | inl u => exact ⟨_, rfl, rfl⟩
          | inr u => exact ⟨_, rfl, rfl⟩
      · have : (decide (0 ≤ b) && decide (b < (c.fl.length : Int))) = false := by
          rw [Bool.and_eq_false_iff, decide_eq_false_iff_not, decide_eq_false_iff_not]; omega
        rw [this, in_f (by omega)]; exact ⟨_, rfl, rfl⟩
    · have : (decide (0 ≤ a) && decide (a < (c.fl.length : Int))) = false := by
        rw [Bool.and_eq_false_iff, decide_eq_false_iff_not, decide_eq_false_iff_not]; omega
      rw [this, in_f (by omega)]; exact ⟨_, rfl, rfl⟩
  · rw [dcl_f hc]; exact ⟨_, rfl, rfl⟩
theorem l_FnExactJoinLevel {c : Cave} {a b : Int} (h1 : c.fl.length ≤ 9223372036854775807) (h2 : c.ar.length ≤ 9223372036854775807) (h3 : c.si.length ≤ 9223372036854775807) : p_laws_FnExactJoinLevel c a b = some true := by
  unfold p_laws_FnExactJoinLevel
  have hcc : (⟨c.fl, c.ar, c.si⟩ : Cave) = c := rfl
  obtain ⟨x, hx, hs⟩ := l_szCave h1 h2 h3
  rw [hcc, hx]
  simp only [Option.bind_some]
  rcases hs with hs | hs
  · rw [decide_eq_true hs]; rfl
  by_cases hx0 : x < 0
  · rw [decide_eq_true hx0]; rfl
  rw [decide_eq_false hx0]
  obtain ⟨e, he1, he2⟩ := l_JoinLevel (c := c) (a := a) (b := b) (by omega)
  simp only [cond_false, l_toCave hs, Option.bind_some, he1, he2, hcc, bne_self_eq_false, l_eqCave hs, decide_true, Bool.not_true]
end Go.Proofs.Ytfgialdcilldiaa
