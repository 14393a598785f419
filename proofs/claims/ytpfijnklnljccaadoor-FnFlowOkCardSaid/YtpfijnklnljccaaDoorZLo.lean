/- Equations solved, pressures, flows and resistances: both programs compute the same; no condition but the sizes. -/
import Derived.Test.YtpfijnklnljccaaDoorZLk
import Derived.Test.YtpfijnklnljccaaDoorZQ
namespace Go.Proofs.YtpfijnklnljccaaDoor
open Go
set_option linter.unusedVariables false
set_option linter.unusedSimpArgs false

theorem l_CloneI {l : List Int} (h : l.length ≤ 1073741824) : p_slices_Clone_int_int l = some l := by
  unfold p_slices_Clone_int_int; rw [need_of (by simpa using h)]; rfl
theorem row_uc {n c i : Nat} {g : Nat → Nat → Int} {v : Nat → Int} (hc : c < n) : (row1 n (g i)).set c (v i) = row1 n (uc g c v i) := row1_set hc
theorem l_withColumn {n c : Nat} {g : Nat → Nat → Int} {r : List Int} (hn : n ≤ 1000) (hc : c < n) (hr : r.length = n) : p_impl_withColumn (tab n g) (c : Int) r = some (tab n (uc g c (gx r))) := by
  unfold p_impl_withColumn
  rw [tab_len, sized_at (by omega)]
  have hl : (tab n (uc g c (gx r))).length = (List.replicate n ([] : List Int)).length := by simp [tab_len]
  rw [loop_to (B := p_impl_withColumn_L0 (tab n g) (c : Int) r n) (fun k => ((k : Int), mixG (tab n (uc g c (gx r))) (List.replicate n []) k)) n (by simp [mixG]) (e := tab n (uc g c (gx r))) (fun k hk => by
    simp only [p_impl_withColumn_L0]
    have hml : (mixG (tab n (uc g c (gx r))) (List.replicate n ([] : List Int)) k).length = n := by rw [mixG_len hl]; simp
    rw [tab_len, decide_eq_true (by omega), idx_at hk, tab_gx hk, l_CloneI (by rw [row1_len]; omega), w64_succ (by omega)]
    simp only [cond_true, Option.bind_some]
    rw [idx_at hk, idx_at (by omega), gx_set_self (by omega), row1_len, idx_at hc, List.set_set, row_uc (v := gx r) hc, ← mixG_set hl (by simpa using hk), tab_gx hk]) (by
    simp only [p_impl_withColumn_L0]
    rw [tab_len, decide_eq_false (by omega)]
    have := mixG_end (m := tab n (uc g c (gx r))) (l := List.replicate n ([] : List Int)) hl
    rw [List.length_replicate] at this
    rw [this]; rfl)]
  rfl
/-- What is solved. -/
def svOk (m : List (List Int)) (r : List Int) : Bool := matOk m && (decide (r.length = m.length) && rowOk r) && !decide (det m = 0)
def sv (m : List (List Int)) (r : List Int) : List Int × Int := if svOk m r then (row1 m.length fun k => dt m.length (uc (fm m) k (gx r)), det m) else ([], 0)
theorem rowOk_at {r : List Int} (h : rowOk r = true) : ∀ k, k < r.length → -999 ≤ gx r k ∧ gx r k ≤ 999 := by
  intro k hk
  unfold rowOk at h
  rw [List.all_eq_true] at h
  have := h k (by simpa using hk)
  simpa using this
theorem det_uc {n c : Nat} {g : Nat → Nat → Int} {r : List Int} (hn : n ≤ 5) (hr : r.length = n) (h : rowOk r = true) (hg : ∀ i, i < n → ∀ j, j < n → -999 ≤ g i j ∧ g i j ≤ 999) : det (tab n (uc g c (gx r))) = dt n (uc g c (gx r)) :=
  det_tab hn fun i hi j hj => by
    unfold uc; split
    · exact rowOk_at h i (by omega)
    · exact hg i hi j hj
theorem tab_small {n : Nat} {g : Nat → Nat → Int} (hn : n ≤ 1000) : (tab n g).length ≤ 4611686018427387904 ∧ ∀ k, k < (tab n g).length → (gx (tab n g) k).length ≤ 4611686018427387904 :=
  ⟨by rw [tab_len]; omega, fun k hk => by rw [tab_len] at hk; rw [tab_gx hk, row1_len]; omega⟩
theorem l_implSolve {m : List (List Int)} {r : List Int} (h : m.length ≤ 4611686018427387904) (hr : ∀ k, k < m.length → (gx m k).length ≤ 4611686018427387904) (hl : r.length ≤ 4611686018427387904) : p_impl_Solve m r = some (sv m r) := by
  unfold p_impl_Solve sv svOk
  rw [l_implMatrixValid h hr]
  cases hv : matOk m with
  | false => rfl
  | true =>
    have ok := matOk_iff.1 hv
    have n5 := ok.n5
    simp only [Option.bind_some, Bool.not_true, cond_false, Bool.true_and, bne_dec]
    have e1 : decide (((r.length : Nat) : Int) = ((m.length : Nat) : Int)) = decide (r.length = m.length) := by rw [decide_eq_decide]; omega
    rw [e1, l_entriesFit hl]
    by_cases hrl : r.length = m.length
    · rw [decide_eq_true hrl]
      cases hro : rowOk r with
      | false => rfl
      | true =>
        simp only [Option.bind_some, Bool.not_true, cond_false, Bool.true_and]
        rw [l_implDet h hr]
        simp only [Option.bind_some, beq_dec]
        by_cases hd : det m = 0
        · rw [decide_eq_true hd]; rfl
        · rw [decide_eq_false hd, sized_at (by omega)]
          simp only [cond_false, Bool.not_false, if_true]
          have em := tab_fm rfl ok.sq
          generalize hn : m.length = n at *
          rw [loop_to (B := p_impl_Solve_L0 m r n) (fun k => ((k : Int), mixG (row1 n fun k => dt n (uc (fm m) k (gx r))) (List.replicate n 0) k)) n (by simp [mixG]) (e := row1 n fun k => dt n (uc (fm m) k (gx r))) (fun k hk => by
            simp only [p_impl_Solve_L0]
            have hw := l_withColumn (n := n) (c := k) (g := fm m) (r := r) (by omega) hk hrl
            rw [← em] at hw
            rw [decide_eq_true (by omega), hw]
            simp only [cond_true, Option.bind_some]
            rw [l_implDet (tab_small (by omega)).1 (tab_small (by omega)).2, Option.bind_some, idx_at hk, w64_succ (by omega), det_uc (g := fm m) n5 hrl hro (fun i hi j hj => ok.en i (by omega) j (by omega)), ← mixG_set (by simp [row1_len]) (by simpa using hk), row1_gx hk]) (by
            simp only [p_impl_Solve_L0]
            rw [decide_eq_false (by omega)]
            have := mixG_end (m := row1 n fun k => dt n (uc (fm m) k (gx r))) (l := List.replicate n (0 : Int)) (by simp [row1_len])
            rw [List.length_replicate] at this
            rw [this]; rfl)]
          rfl
    · rw [decide_eq_false hrl]; rfl
def prOk (m : Mine) (i o : Int) : Bool := lnk m && (decide (0 ≤ i) && decide (i < m.p)) && (decide (0 ≤ o) && decide (o < m.p))
def pv (m : Mine) (i o : Int) (v : Nat) : Int := pr (mm m) (eM m) i.toNat o.toNat v
theorem pv_zero {m : Mine} {i o : Int} : pv m i o 0 = 0 := rfl
def prs (m : Mine) (i o : Int) : List Int × Bool := if prOk m i o then (row1 m.p.toNat (pv m i o), true) else ([], false)
structure PrOk (m : Mine) (i o : Int) : Prop where
  ok : MineOk m
  cn : Conn (mm m) (eM m)
  i0 : 0 ≤ i
  i1 : i < m.p
  o0 : 0 ≤ o
  o1 : o < m.p
theorem prOk_iff {m : Mine} {i o : Int} : prOk m i o = true ↔ PrOk m i o := by
  unfold prOk
  simp only [Bool.and_eq_true, decide_eq_true_eq, lnk_conn, mineOk_iff]
  constructor
  · rintro ⟨⟨⟨h1, h2⟩, h3, h4⟩, h5, h6⟩; exact ⟨h1, h2, h3, h4, h5, h6⟩
  · rintro ⟨h1, h2, h3, h4, h5, h6⟩; exact ⟨⟨⟨h1, h2⟩, h3, h4⟩, h5, h6⟩
/-- What goes in and out, as a list without the place 0. -/
theorem right_eq {n i o : Nat} (hi : i < n) (ho : o < n) : (((List.replicate n (0 : Int)).set i (w64 (gx (List.replicate n (0 : Int)) i + 1))).set o (w64 (gx ((List.replicate n (0 : Int)).set i (w64 (gx (List.replicate n (0 : Int)) i + 1))) o - 1))) = row1 n (src i o) := by
  rw [row1_zero, row1_gx hi, row1_set hi, row1_gx ho, row1_set ho]
  apply row1_ext; intro k hk
  have e1 : w64 (0 + 1) = 1 := w64_in (by omega) (by omega)
  rw [e1]
  unfold src
  by_cases h1 : k = o
  · subst h1; rw [if_pos rfl, if_pos rfl]
    split
    · rw [w64_in (by omega) (by omega)]
    · rw [w64_in (by omega) (by omega)]
  · rw [if_neg h1, if_neg h1]; omega
theorem cut_one {β : Type} {n : Nat} {k : Nat → Nat → O β} (h : 1 ≤ n) : cut n 1 (n : Int) k = k 1 n := by
  unfold cut; rw [if_pos (by omega)]; simp
theorem row1_drop {n : Nat} {g : Nat → Int} : ((row1 (n + 1) g).drop 1).take (n + 1 - 1) = row1 n fun k => g (k + 1) := by
  apply gx_ext (by simp [row1_len])
  intro k hk
  have hk' : k < n := by simp [row1_len] at hk; omega
  rw [gx_take (by omega), gx_drop, row1_gx (by omega), row1_gx hk']; congr 1; omega
theorem det_pos {m : Mine} (ok : MineOk m) (hc : Conn (mm m) (eM m)) : det (airM m) ≠ 0 := by
  rw [det_airM ok]
  have := (D_pos (mine_in ok) (mine_w ok)).2 hc
  omega
theorem solve_pr {m : Mine} {i o : Int} (h : PrOk m i o) : sv (airM m) (row1 (mm m) fun k => src i.toNat o.toNat (k + 1)) = (row1 (mm m) fun k => pv m i o (k + 1), D (mm m) (eM m)) := by
  have ok := h.ok
  have p1 := ok.p1; have p5 := ok.p5
  have hl : (airM m).length = mm m := by rw [airM_ok ok, tab_len]
  have hro : rowOk (row1 (mm m) fun k => src i.toNat o.toNat (k + 1)) = true := by
    unfold rowOk
    rw [List.all_eq_true]
    intro k hk
    have hk' : k < mm m := by simpa [row1_len] using hk
    rw [row1_gx hk']
    unfold src
    have : ∀ a b : Int, (a = 0 ∨ a = 1) → (b = 0 ∨ b = 1) → (decide (-999 ≤ a - b) && decide (a - b ≤ 999)) = true := by
      intro a b ha hb; rcases ha with rfl | rfl <;> rcases hb with rfl | rfl <;> decide
    exact this _ _ (by split <;> simp) (by split <;> simp)
  have hs : svOk (airM m) (row1 (mm m) fun k => src i.toNat o.toNat (k + 1)) = true := by
    unfold svOk
    have hm : MatOk (airM m) := by
      rw [airM_ok ok]
      exact ⟨by rw [tab_len]; unfold mm; omega, fun k hk => by rw [tab_len] at hk; rw [tab_gx hk, row1_len, tab_len], fun k hk j hj => by
        rw [tab_len] at hk hj
        rw [tab_gx hk, row1_gx hj]; have := L0_bd ok k j; omega⟩
    rw [matOk_iff.2 hm, hro, row1_len, hl, decide_eq_false (det_pos ok h.cn)]; simp
  unfold sv
  rw [if_pos hs, hl, det_airM ok]
  congr 1
  apply row1_ext; intro k hk
  show _ = dt (mm m) (uc (L0 (eM m)) k fun r => src i.toNat o.toNat (r + 1))
  refine dt_congr fun a ha b hb => ?_
  unfold uc
  split
  · rw [row1_gx ha]
  · rw [airM_ok ok, fm_tab ha hb]
theorem l_implPressures {m : Mine} {i o : Int} (h : m.aw.length ≤ 4611686018427387904) : p_impl_Pressures m i o = some (prs m i o) := by
  unfold p_impl_Pressures prs
  rw [show (⟨m.p, m.aw⟩ : Mine) = m from rfl, l_implAirLinked h, l_isIndex, l_isIndex]
  have hb : (((some (lnk m)).bind fun v15 => cond (!v15) (some true) ((some (decide (0 ≤ i) && decide (i < m.p))).bind fun v19 => cond (!v19) (some true) ((some (decide (0 ≤ o) && decide (o < m.p))).bind fun v26 => some (!v26)))) : O Bool) = some (!prOk m i o) := by
    unfold prOk
    cases lnk m <;> cases (decide (0 ≤ i) && decide (i < m.p)) <;> cases (decide (0 ≤ o) && decide (o < m.p)) <;> rfl
  rw [hb]
  cases hp : prOk m i o with
  | false => rfl
  | true =>
    have P := prOk_iff.1 hp
    have ok := P.ok
    have p1 := ok.p1; have p5 := ok.p5; have i0 := P.i0; have i1 := P.i1; have o0 := P.o0; have o1 := P.o1
    simp only [Option.bind_some, Bool.not_true, cond_false, if_true]
    obtain ⟨a, ha⟩ := Int.eq_ofNat_of_zero_le i0
    obtain ⟨b, hb2⟩ := Int.eq_ofNat_of_zero_le o0
    obtain ⟨n, hn⟩ : ∃ n : Nat, m.p = ((n + 1 : Nat) : Int) := ⟨m.p.toNat - 1, by omega⟩
    have hmm : mm m = n := by unfold mm; omega
    have hpn : m.p.toNat = n + 1 := by omega
    have han : a < n + 1 := by omega
    have hbn : b < n + 1 := by omega
    have hsv := solve_pr P
    rw [hmm, ha, hb2, Int.toNat_natCast, Int.toNat_natCast] at hsv
    rw [hpn, hn, ha, hb2, sized_at (by omega), idx_at han, idx_at hbn, right_eq han hbn, l_implAirMatrix h]
    simp only [Option.bind_some]
    rw [cut_one (by omega), row1_drop, l_implSolve airM_rows.1 airM_rows.2 (by rw [row1_len]; omega), hsv, Option.bind_some]
    dsimp only
    rw [sized_at (by omega), cut_one (by omega), row1_len]
    congr 2
    apply gx_ext
    · simp [row1_len]; omega
    · intro k hk
      have hk' : k < n + 1 := by simp [row1_len] at hk; omega
      rw [row1_gx hk']
      cases k with
      | zero => rw [pv_zero]; simp [gx, List.replicate_succ]
      | succ k =>
        rw [gx_app3 (by simp), gx_app1 (by simp [row1_len]; omega), gx_take (by simp; omega)]
        have : k + 1 - (List.take 1 (List.replicate (n + 1) (0 : Int))).length = k := by simp
        rw [this, row1_gx (by omega)]
theorem pv_bd {m : Mine} {i o : Int} (P : PrOk m i o) : ∀ u v, u ≤ mm m → v ≤ mm m → pv m i o u - pv m i o v ≤ 823543 := by
  intro u v hu hv
  have ok := P.ok
  have hi : i.toNat ≤ mm m := by have := P.i0; have := P.i1; unfold mm; omega
  have ho : o.toNat ≤ mm m := by have := P.o0; have := P.o1; unfold mm; omega
  have h1 := pr_max P.cn (mine_in ok) (mine_w ok) hi ho u hu
  have h2 := pr_min P.cn (mine_in ok) (mine_w ok) hi ho v hv
  have h3 := rs_le (mine_in ok) (mine_w ok) hi ho
  have h4 := pw_le (E := eM m) (n := 7) (c := 6) (by rw [eM_len]; exact ok.n7) (mine_w6 ok) (by omega)
  have h5 : ((1 : Int) + 6) ^ 7 = 823543 := by decide
  unfold rs at h3
  unfold pv
  omega

def aflow (m : Mine) (i o : Int) (k : Nat) : Int := air (eM m) (pv m i o) k
def afs (m : Mine) (i o : Int) : List Int × Bool := if prOk m i o then (row1 m.aw.length (aflow m i o), true) else ([], false)
theorem aflow_bd {m : Mine} {i o : Int} (P : PrOk m i o) {k : Nat} (hk : k < m.aw.length) : -4941258 ≤ aflow m i o k ∧ aflow m i o k ≤ 4941258 := by
  have ok := P.ok
  have a := ok.aw k hk
  have f0 := a.f0; have f1 := a.f1; have t0 := a.t0; have t1 := a.t1; have w1 := a.w1; have w6 := a.w6
  unfold aflow air
  rw [eM_gx hk]
  simp only [eA]
  have hf : (gx m.aw k).f.toNat ≤ mm m := by unfold mm; omega
  have ht : (gx m.aw k).t.toNat ≤ mm m := by unfold mm; omega
  have b1 := pv_bd P _ _ hf ht
  have b2 := pv_bd P _ _ ht hf
  generalize pv m i o (gx m.aw k).f.toNat = x at *
  generalize pv m i o (gx m.aw k).t.toNat = y at *
  have c1 : -(6 * 823543) ≤ (gx m.aw k).w * (x - y) ∧ (gx m.aw k).w * (x - y) ≤ 6 * 823543 := by
    rcases (show (gx m.aw k).w = 1 ∨ (gx m.aw k).w = 2 ∨ (gx m.aw k).w = 3 ∨ (gx m.aw k).w = 4 ∨ (gx m.aw k).w = 5 ∨ (gx m.aw k).w = 6 by omega) with h | h | h | h | h | h <;> rw [h] <;> omega
  omega
theorem flow_w {m : Mine} {i o : Int} (P : PrOk m i o) {k : Nat} (hk : k < m.aw.length) {n a b : Nat} (hn : n = m.p.toNat) (ha : (gx m.aw k).f = (a : Int)) (hb : (gx m.aw k).t = (b : Int)) : w64 ((gx m.aw k).w * w64 (gx (row1 n (pv m i o)) a - gx (row1 n (pv m i o)) b)) = aflow m i o k := by
  have ok := P.ok
  have A := ok.aw k hk
  have f1 := A.f1; have t1 := A.t1
  have han : a < n := by omega
  have hbn : b < n := by omega
  rw [row1_gx han, row1_gx hbn]
  have b1 := pv_bd P a b (by unfold mm; omega) (by unfold mm; omega)
  have b2 := pv_bd P b a (by unfold mm; omega) (by unfold mm; omega)
  have c := aflow_bd P hk
  have e : aflow m i o k = (gx m.aw k).w * (pv m i o a - pv m i o b) := by
    unfold aflow air; rw [eM_gx hk]; simp only [eA, ha, hb, Int.toNat_natCast]
  rw [e] at c ⊢
  rw [w64_in (x := pv m i o a - pv m i o b) (by omega) (by omega), w64_in (by omega) (by omega)]
theorem l_implAirFlow {m : Mine} {i o : Int} (h : m.aw.length ≤ 4611686018427387904) : p_impl_AirFlow m i o = some (afs m i o) := by
  unfold p_impl_AirFlow afs
  rw [show (⟨m.p, m.aw⟩ : Mine) = m from rfl, l_implPressures h]
  unfold prs
  cases hp : prOk m i o with
  | false => rfl
  | true =>
    have P := prOk_iff.1 hp
    have ok := P.ok
    have n7 := ok.n7
    simp only [if_true, Option.bind_some, Bool.not_true, cond_false]
    rw [sized_at (by omega)]
    rw [loop_to (B := p_impl_AirFlow_L0 m (row1 m.p.toNat (pv m i o)) m.aw.length) (fun k => ((k : Int), mixG (row1 m.aw.length (aflow m i o)) (List.replicate m.aw.length 0) k)) m.aw.length (by simp [mixG]) (e := row1 m.aw.length (aflow m i o)) (fun k hk => by
      simp only [p_impl_AirFlow_L0]
      have A := ok.aw k hk
      obtain ⟨a, ha⟩ := Int.eq_ofNat_of_zero_le A.f0
      obtain ⟨b, hb⟩ := Int.eq_ofNat_of_zero_le A.t0
      have f1 := A.f1; have t1 := A.t1
      rw [decide_eq_true (by omega), idx_at hk, row1_len, idx_eq ha (by omega), idx_eq hb (by omega), idx_at hk, w64_succ (by omega), flow_w P hk rfl ha hb, ← mixG_set (by simp [row1_len]) (by simpa using hk), row1_gx hk]; rfl) (by
      simp only [p_impl_AirFlow_L0]
      rw [decide_eq_false (by omega)]
      have := mixG_end (m := row1 m.aw.length (aflow m i o)) (l := List.replicate m.aw.length (0 : Int)) (by simp [row1_len])
      rw [List.length_replicate] at this
      rw [this]; rfl)]
    rfl
end Go.Proofs.YtpfijnklnljccaaDoor
