/- The trees of a mine with an airway: both programs compute the same; no condition but the sizes. -/
import Derived.Test.YtkedammjdldloaaLl
import Derived.Test.YtkedammjdldloaaLq
import Derived.Test.YtkedammjdldloaaQba
namespace Go.Proofs.Ytkedammjdldloaa
open Go
set_option linter.unusedVariables false
set_option linter.unusedSimpArgs false

theorem l_CloneA1 {l : List Airway} (h : l.length ≤ 1073741824) : p_slices_Clone_impl_Airway_impl_Airway l = some l := by
  unfold p_slices_Clone_impl_Airway_impl_Airway; rw [need_of (by simpa using h)]; rfl
theorem l_DeleteA {l : List Airway} {k : Nat} (h : k < l.length) (hl : l.length ≤ 1000000) : p_slices_Delete_impl_Airway_impl_Airway l (k : Int) (w64 ((k : Int) + 1)) = some (l.eraseIdx k) := by
  unfold p_slices_Delete_impl_Airway_impl_Airway
  rw [w64_succ (by omega), cut_at (by omega) (by omega), show ((k : Int) == ((k + 1 : Nat) : Int)) = false by rw [beq_eq_false_iff_ne]; omega, cond_false, show cut l.length 0 (k : Int) = cut l.length ((0 : Nat) : Int) (k : Int) from rfl, cut_at (by omega) (by omega), cut_at (by omega) (by omega), List.eraseIdx_eq_take_drop_succ]
def eraseM (m : Mine) (k : Nat) : Mine := ⟨m.p, m.aw.eraseIdx k⟩
theorem erase_ok {m : Mine} (ok : MineOk m) (k : Nat) : MineOk (eraseM m k) := by
  refine ⟨ok.p1, ok.p5, ?_, fun i hi => ?_⟩
  · have := List.length_eraseIdx_le m.aw k
    have := ok.n7
    unfold eraseM; simp only; omega
  · have hm : gx (eraseM m k).aw i ∈ m.aw := List.mem_of_mem_eraseIdx (gx_mem hi)
    exact ok_mem ok _ hm
theorem eM_erase {m : Mine} {k : Nat} : eM (eraseM m k) = (eM m).eraseIdx k := by
  unfold eM eraseM
  simp only
  have : ∀ (l : List Airway) (k : Nat), (l.eraseIdx k).map eA = (l.map eA).eraseIdx k := by
    intro l
    induction l with
    | nil => intro k; rfl
    | cons a l ih =>
      intro k
      cases k with
      | zero => rfl
      | succ k => simp only [List.eraseIdx_cons_succ, List.map_cons, ih]
  exact this _ _
/-- The trees with an airway, by their weights. -/
def inAw (m : Mine) (k : Int) : Bool := decide (0 ≤ k) && decide (k < (m.aw.length : Int))
def twk (m : Mine) (k : Int) : Int := if mineOk m && inAw m k then tr m - tr (eraseM m k.toNat) else -1
theorem tr_nonneg {m : Mine} (ok : MineOk m) : 0 ≤ tr m := by
  unfold tr; rw [if_pos (mineOk_iff.2 ok)]; exact D_nonneg (mine_in ok) (mine_w ok)
theorem l_implAirTreesWith {m : Mine} {k : Int} (h : m.aw.length ≤ 4611686018427387904) : p_impl_AirTreesWith m k = some (twk m k) := by
  unfold p_impl_AirTreesWith twk inAw
  rw [show (⟨m.p, m.aw⟩ : Mine) = m from rfl, l_implMineValid h, l_isIndex]
  cases hv : mineOk m with
  | false => rfl
  | true =>
    have ok := mineOk_iff.1 hv
    have n7 := ok.n7
    simp only [Option.bind_some, Bool.not_true, cond_false, Bool.true_and]
    by_cases hk : 0 ≤ k ∧ k < (m.aw.length : Int)
    · obtain ⟨j, rfl⟩ := Int.eq_ofNat_of_zero_le hk.1
      have hj : j < m.aw.length := by omega
      rw [decide_eq_true hk.1, decide_eq_true hk.2]
      simp only [Bool.and_self, Bool.not_true, cond_false, if_true, Option.bind_some]
      rw [l_CloneA1 (by omega), Option.bind_some, l_DeleteA hj (by omega), Option.bind_some, l_implAirTrees h, Option.bind_some]
      have he := List.length_eraseIdx_le m.aw j
      rw [l_implAirTrees (by simp only; omega), Option.bind_some]
      have e1 : (⟨m.p, m.aw.eraseIdx j⟩ : Mine) = eraseM m j := rfl
      have t1 := tr_le (m := m); have t2 := tr_le (m := eraseM m j)
      have t3 := tr_nonneg ok; have t4 := tr_nonneg (erase_ok ok j)
      rw [e1, w64_in (by omega) (by omega), Int.toNat_natCast]
    · have : (decide (0 ≤ k) && decide (k < (m.aw.length : Int))) = false := by rw [and_dec, decide_eq_false hk]
      rw [this]; rfl

/-! ### Products of widths -/
def lprod : List Int → Int
  | [] => 1
  | x :: l => x * lprod l
theorem lprod_snoc : ∀ {l : List Int} {x : Int}, lprod (l ++ [x]) = lprod l * x
  | [], x => by simp [lprod]
  | y :: l, x => by simp only [List.cons_append, lprod, lprod_snoc (l := l)]; rw [Int.mul_assoc]
theorem lprod_bd : ∀ {l : List Int}, (∀ x ∈ l, 1 ≤ x ∧ x ≤ 6) → 1 ≤ lprod l ∧ lprod l ≤ 6 ^ l.length
  | [], _ => by simp [lprod]
  | x :: l, h => by
    have h1 := lprod_bd (l := l) (fun y hy => h y (List.mem_cons_of_mem _ hy))
    have h2 := h x List.mem_cons_self
    have h3 := Int.mul_le_mul h2.1 h1.1 (by omega) (by omega)
    have h4 := Int.mul_le_mul h2.2 h1.2 (by omega) (by omega)
    rw [List.length_cons, Int.pow_succ]
    simp only [lprod]
    rw [Int.mul_comm (6 ^ l.length) 6]
    omega
theorem six_pow {n : Nat} (h : n ≤ 7) : (6 : Int) ^ n ≤ 279936 := by
  have : ∀ n : Nat, n < 8 → (6 : Int) ^ n ≤ 279936 := by decide
  exact this n (by omega)
/-- The widths of some airways, told by their indices. -/
def wdt (m : Mine) (row : List Int) : List Int := row.map fun i => (gx m.aw i.toNat).w
theorem wdt_pk {m : Mine} {t : Nat} : lprod (wdt m (ixI m.aw.length t)) = wT (eM m) t := by
  rw [wT_pk, pk_ix, eM_len]
  unfold wdt ixI
  rw [List.map_map]
  have : ∀ l : List Nat, (∀ k ∈ l, k < m.aw.length) → lprod (l.map ((fun i : Int => (gx m.aw i.toNat).w) ∘ fun k : Nat => (k : Int))) = (l.map fun k => (eM m).getD k default).foldr (fun e x => e.w * x) 1 := by
    intro l
    induction l with
    | nil => intro _; rfl
    | cons k l ih =>
      intro h
      simp only [List.map_cons, lprod, List.foldr_cons, Function.comp, Int.toNat_natCast]
      rw [ih (fun j hj => h j (List.mem_cons_of_mem _ hj))]
      have : (eM m).getD k default = eA (gx m.aw k) := eM_gx (h k List.mem_cons_self)
      rw [this]; rfl
  exact this _ (fun k hk => by unfold ix at hk; rw [List.mem_filter, List.mem_range] at hk; exact hk.1)
theorem isT_ab {n : Nat} {E F : List Ed} {P : Pt} {t : Nat} (h : E.map (fun e => (e.a, e.b)) = F.map (fun e => (e.a, e.b))) : isT n P E t = isT n P F t := by
  have hp : (pk E t).map (fun e => (e.a, e.b)) = (pk F t).map (fun e => (e.a, e.b)) := by rw [← pk_map, ← pk_map, h]
  rw [isT_pk, isT_pk, jok_ab hp, fj_ab hp]
theorem tset_sM {m : Mine} {t : Nat} : tset (sM m) t = isT (mm m) pid (eM m) t := isT_ab sM_ab
theorem TA_sM {m : Mine} (ok : MineOk m) : TA (sM m) = (tsets (sM m)).map (ixI m.aw.length) := by
  unfold TA
  rw [if_pos (surveyOk_iff.2 (sM_ok ok)), sM_len]
theorem TA_len {s : Survey} (ok : SurveyOk s) : (TA s).length ≤ 512 := by
  unfold TA
  rw [if_pos (surveyOk_iff.2 ok), List.length_map]
  have := filter_len (p := tset s) (x := 2 ^ s.legs.length)
  have := (two_pow ok.n9).2
  unfold tsets; omega
theorem TA_row {m : Mine} (ok : MineOk m) {k : Nat} (hk : k < (TA (sM m)).length) : ∃ t, gx (TA (sM m)) k = ixI m.aw.length t := by
  rw [TA_sM ok] at hk ⊢
  rw [List.length_map] at hk
  exact ⟨_, gx_of_map hk⟩
/-- The product of a row's widths, one after the other. -/
theorem wdt_bd {m : Mine} (ok : MineOk m) {t : Nat} : ∀ x ∈ wdt m (ixI m.aw.length t), 1 ≤ x ∧ x ≤ 6 := by
  intro x hx
  unfold wdt at hx
  rw [List.mem_map] at hx
  obtain ⟨i, hi, rfl⟩ := hx
  obtain ⟨k, hk, e⟩ := mem_gx hi
  obtain ⟨j, hj, hjl, _⟩ := ixI_mem hk
  rw [← e, hj, Int.toNat_natCast]
  have := ok.aw j hjl
  exact ⟨this.w1, this.w6⟩
theorem wdt_step {m : Mine} (ok : MineOk m) {t j : Nat} (hj : j < (ixI m.aw.length t).length) : w64 (lprod ((wdt m (ixI m.aw.length t)).take j) * (gx m.aw (gx (ixI m.aw.length t) j).toNat).w) = lprod ((wdt m (ixI m.aw.length t)).take (j + 1)) := by
  have n7 := ok.n7
  have hl : (wdt m (ixI m.aw.length t)).length = (ixI m.aw.length t).length := by simp [wdt]
  have hle := ixI_len (n := m.aw.length) (s := t)
  have e : lprod ((wdt m (ixI m.aw.length t)).take (j + 1)) = lprod ((wdt m (ixI m.aw.length t)).take j) * (gx m.aw (gx (ixI m.aw.length t) j).toNat).w := by
    rw [take_gx (by omega), lprod_snoc]; congr 1; unfold wdt; rw [gx_of_map hj]
  rw [← e]
  have b := lprod_bd (l := (wdt m (ixI m.aw.length t)).take (j + 1)) (fun x hx => wdt_bd ok x (List.mem_of_mem_take hx))
  have b2 := six_pow (n := ((wdt m (ixI m.aw.length t)).take (j + 1)).length) (by rw [List.length_take]; omega)
  exact w64_in (by omega) (by omega)
theorem wdt_all {m : Mine} (ok : MineOk m) {t : Nat} : 1 ≤ lprod (wdt m (ixI m.aw.length t)) ∧ lprod (wdt m (ixI m.aw.length t)) ≤ 279936 := by
  have n7 := ok.n7
  have hle := ixI_len (n := m.aw.length) (s := t)
  have b := lprod_bd (wdt_bd ok (t := t))
  have b2 := six_pow (n := (wdt m (ixI m.aw.length t)).length) (by simp [wdt]; omega)
  omega
/-- A sum over the rows, up to one of them. -/
theorem lsum_bd {B : Int} : ∀ {l : List Int}, (∀ x ∈ l, 0 ≤ x ∧ x ≤ B) → 0 ≤ lsum l ∧ lsum l ≤ B * (l.length : Int)
  | [], _ => by simp [lsum]
  | x :: l, h => by
    have h1 := lsum_bd (l := l) (fun y hy => h y (List.mem_cons_of_mem _ hy))
    have h2 := h x List.mem_cons_self
    have e : B * ((l.length + 1 : Nat) : Int) = B * (l.length : Int) + B := by rw [Int.natCast_add, Int.mul_add]; simp
    simp only [lsum, List.length_cons]
    omega
def wrow (m : Mine) (k : Int) (row : List Int) : Int := if decide (k ∈ row) then lprod (wdt m row) else 0
theorem wrow_bd {m : Mine} (ok : MineOk m) {k : Int} : ∀ x ∈ (TA (sM m)).map (wrow m k), 0 ≤ x ∧ x ≤ 279936 := by
  intro x hx
  rw [List.mem_map] at hx
  obtain ⟨row, hr, rfl⟩ := hx
  obtain ⟨j, hj, rfl⟩ := mem_gx hr
  obtain ⟨t, ht⟩ := TA_row ok hj
  rw [ht]
  have := wdt_all ok (t := t)
  unfold wrow; split <;> omega
theorem sum_step {l : List Int} (hl : l.length ≤ 512) (hb : ∀ x ∈ l, 0 ≤ x ∧ x ≤ 279936) {k : Nat} (hk : k < l.length) : w64 (lsum (l.take k) + gx l k) = lsum (l.take (k + 1)) := by
  have e : lsum (l.take (k + 1)) = lsum (l.take k) + gx l k := by rw [take_gx hk, lsum_app]; simp [lsum]
  rw [← e]
  have b := lsum_bd (l := l.take (k + 1)) (fun x hx => hb x (List.mem_of_mem_take hx))
  have : ((l.take (k + 1)).length : Int) ≤ 512 := by rw [List.length_take]; omega
  exact w64_in (by omega) (by omega)
theorem twk_sum {m : Mine} (ok : MineOk m) {k : Nat} (hk : k < m.aw.length) : lsum ((TA (sM m)).map (wrow m (k : Int))) = tr m - tr (eraseM m k) := by
  rw [TA_sM ok, List.map_map]
  unfold tsets
  rw [lsum_sets, sM_len]
  have h := trees_with (mine_in ok) (show k < (eM m).length by rw [eM_len]; exact hk)
  rw [eM_len, ← eM_erase] at h
  unfold tr
  rw [if_pos (mineOk_iff.2 ok), if_pos (mineOk_iff.2 (erase_ok ok k))]
  have e : mm (eraseM m k) = mm m := rfl
  rw [e, ← h]
  refine sm_congr fun t ht => ?_
  rw [tset_sM]
  simp only [Function.comp, wrow, ixI_has hk, wdt_pk]
  cases isT (mm m) pid (eM m) t <;> cases has t k <;> rfl
theorem l_specProd {m : Mine} (ok : MineOk m) {k : Nat} (hk : k < (TA (sM m)).length) : loop (p_spec_AirTreesWith_L1 m (TA (sM m)) (k : Int)) (1, 0) = some (lprod (wdt m (gx (TA (sM m)) k))) := by
  obtain ⟨t, ht⟩ := TA_row ok hk
  have n7 := ok.n7
  have hle := ixI_len (n := m.aw.length) (s := t)
  have hwl : (wdt m (ixI m.aw.length t)).length = (ixI m.aw.length t).length := by simp [wdt]
  rw [loop_to (B := p_spec_AirTreesWith_L1 m (TA (sM m)) (k : Int)) (fun j => (lprod ((wdt m (ixI m.aw.length t)).take j), (j : Int))) (ixI m.aw.length t).length (by rfl) (e := lprod (wdt m (gx (TA (sM m)) k))) (fun j hj => by
    simp only [p_spec_AirTreesWith_L1]
    rw [idx_at hk, ht, decide_eq_true (by omega), idx_at hj]
    obtain ⟨i, hi, hil, _⟩ := ixI_mem hj
    have := wdt_step ok hj
    rw [hi, Int.toNat_natCast] at this
    simp only [cond_true]
    rw [hi, idx_at hil, w64_succ (by omega), this]) (by
    simp only [p_spec_AirTreesWith_L1]
    rw [idx_at hk, ht, decide_eq_false (by omega), ← hwl, List.take_length]; rfl)]
theorem l_specAirTreesWith {m : Mine} {k : Int} (h : m.aw.length ≤ 4611686018427387904) : p_spec_AirTreesWith m k = some (twk m k) := by
  unfold p_spec_AirTreesWith twk inAw
  rw [show (⟨m.p, m.aw⟩ : Mine) = m from rfl, l_specMineValid h, l_l1In]
  cases hv : mineOk m with
  | false => rfl
  | true =>
    have ok := mineOk_iff.1 hv
    have n7 := ok.n7
    have e : (decide (0 ≤ k) && decide (k ≤ w64 ((m.aw.length : Int) - 1))) = (decide (0 ≤ k) && decide (k < (m.aw.length : Int))) := by
      rw [w64_in (by omega) (by omega)]; congr 1; rw [decide_eq_decide]; omega
    simp only [Option.bind_some, Bool.not_true, cond_false, Bool.true_and]
    rw [e]
    by_cases hk : 0 ≤ k ∧ k < (m.aw.length : Int)
    · obtain ⟨j, rfl⟩ := Int.eq_ofNat_of_zero_le hk.1
      have hj : j < m.aw.length := by omega
      rw [decide_eq_true hk.1, decide_eq_true hk.2]
      simp only [Bool.and_self, Bool.not_true, cond_false, if_true, Option.bind_some, Int.toNat_natCast]
      rw [l_l3Survey (by omega), Option.bind_some, l_specTreesAll (by rw [sM_len]; omega), Option.bind_some]
      have hTl := TA_len (sM_ok ok)
      have hml : ((TA (sM m)).map (wrow m (j : Int))).length = (TA (sM m)).length := by simp
      rw [loop_to (B := p_spec_AirTreesWith_L0 m (j : Int) (TA (sM m))) (fun q => (lsum (((TA (sM m)).map (wrow m (j : Int))).take q), (q : Int))) (TA (sM m)).length (by rfl) (e := lsum ((TA (sM m)).map (wrow m (j : Int)))) (fun q hq => by
        simp only [p_spec_AirTreesWith_L0]
        obtain ⟨t, ht⟩ := TA_row ok hq
        have hrl : (gx (TA (sM m)) q).length ≤ 4611686018427387904 := by rw [ht]; have := ixI_len (n := m.aw.length) (s := t); omega
        have hs := sum_step (l := (TA (sM m)).map (wrow m (j : Int))) (by omega) (wrow_bd ok) (k := q) (by omega)
        rw [gx_of_map hq] at hs
        rw [decide_eq_true (by omega), l_specProd ok hq]
        simp only [cond_true, Option.bind_some]
        rw [idx_at hq, l_l1Has hrl, Option.bind_some, w64_succ (by omega), ← hs]
        unfold wrow
        cases decide ((j : Int) ∈ gx (TA (sM m)) q) with
        | true => rfl
        | false =>
          have : w64 (lsum (((TA (sM m)).map (wrow m (j : Int))).take q) + 0) = lsum (((TA (sM m)).map (wrow m (j : Int))).take q) := by
            have b := lsum_bd (l := ((TA (sM m)).map (wrow m (j : Int))).take q) (fun x hx => wrow_bd ok x (List.mem_of_mem_take hx))
            have : ((((TA (sM m)).map (wrow m (j : Int))).take q).length : Int) ≤ 512 := by rw [List.length_take]; omega
            rw [Int.add_zero]; exact w64_in (by omega) (by omega)
          unfold wrow at this
          simp only [cond_false, Bool.false_eq_true, if_false]
          rw [this]) (by
        simp only [p_spec_AirTreesWith_L0]
        rw [decide_eq_false (by omega), ← hml, List.take_length]; rfl)]
      rw [twk_sum ok hj]; rfl
    · have : (decide (0 ≤ k) && decide (k < (m.aw.length : Int))) = false := by rw [and_dec, decide_eq_false hk]
      rw [this]; rfl
/-- What a unit between both ends of an airway sends through it. -/
theorem twk_rs {m : Mine} (ok : MineOk m) {k : Nat} (hk : k < m.aw.length) : twk m (k : Int) = (gx m.aw k).w * rs (mm m) (eM m) (gx m.aw k).f.toNat (gx m.aw k).t.toNat := by
  have hin : inAw m (k : Int) = true := by unfold inAw; rw [decide_eq_true (by omega), decide_eq_true (by omega)]; rfl
  have a := ok.aw k hk
  have f0 := a.f0; have f1 := a.f1; have t0 := a.t0; have t1 := a.t1
  unfold twk
  rw [mineOk_iff.2 ok, hin, Bool.and_self, if_pos rfl, Int.toNat_natCast]
  have h := D_erase (mine_in ok) (show k < (eM m).length by rw [eM_len]; exact hk)
  unfold tr
  rw [if_pos (mineOk_iff.2 ok), if_pos (mineOk_iff.2 (erase_ok ok k)), eM_erase]
  have e : mm (eraseM m k) = mm m := rfl
  rw [e, h, eM_gx hk]
  simp only [eA]
  rw [rs_turn (by unfold mm; omega) (by unfold mm; omega)]
  omega
end Go.Proofs.Ytkedammjdldloaa
