/- Links, trees counted, surveys adjusted, fixes valid and drawn; no condition but the sizes. -/
import Derived.Test.YtnibfmofkamjoaaDoorZLk
import Derived.Test.YtnibfmofkamjoaaDoorZLq
import Derived.Test.YtnibfmofkamjoaaDoorZLc
import Derived.Test.YtnibfmofkamjoaaDoorZLw
import Derived.Test.YtnibfmofkamjoaaDoorZQ
import Derived.Test.YtnibfmofkamjoaaDoorZLp
import Derived.Test.YtnibfmofkamjoaaDoorZLo
import Derived.Test.YtnibfmofkamjoaaDoorZL2
namespace Go.Proofs.YtnibfmofkamjoaaDoor
open Go
set_option linter.unusedVariables false
set_option linter.unusedSimpArgs false

def aw1 (g : Leg) : Airway := ⟨g.f, g.t, 1⟩
def lA (s : Survey) : List Airway := s.legs.map aw1
theorem lA_len {s : Survey} : (lA s).length = s.legs.length := by simp [lA]
theorem lA_gx {s : Survey} {k : Nat} (h : k < s.legs.length) : gx (lA s) k = aw1 (gx s.legs k) := by unfold lA; rw [gx_of_map h]
theorem lA_ok {s : Survey} (ok : SurveyOk s) : ∀ k, k < (lA s).length → AwOk s.st (gx (lA s) k) := fun k hk => by
  rw [lA_len] at hk
  have a := ok.lg k hk
  rw [lA_gx hk]
  exact ⟨a.f0, a.f1, a.t0, a.t1, a.ne, (by decide : (1 : Int) ≤ 1), (by decide : (1 : Int) ≤ 6)⟩
theorem lA_mem {s : Survey} (ok : SurveyOk s) : ∀ a ∈ lA s, AwOk s.st a := fun a ha => by
  obtain ⟨k, hk, rfl⟩ := mem_gx ha
  exact lA_ok ok k hk
theorem lA_eA {s : Survey} : (lA s).map eA = lE s := by
  unfold lA lE; rw [List.map_map]; rfl
/-- The matrix of a survey's links. -/
def lkM (s : Survey) : List (List Int) := if surveyOk s then tab (mS s) (L0 (lE s)) else []
theorem lks_lE {s : Survey} (ok : SurveyOk s) {i j : Nat} : lks (lA s) i j = L0 (lE s) i j := by
  rw [lks_lap (lA_mem ok), lA_eA]; rfl
theorem lkM_ok {s : Survey} (ok : SurveyOk s) : lkM s = tab (mS s) (lks (lA s)) := by
  unfold lkM; rw [if_pos (surveyOk_iff.2 ok)]
  exact tab_ext fun i j _ _ => (lks_lE ok).symm
theorem take_bd {s : Survey} (ok : SurveyOk s) {k : Nat} (hk : k ≤ s.legs.length) (i j : Nat) : -54 ≤ lks ((lA s).take k) i j ∧ lks ((lA s).take k) i j ≤ 54 := by
  have n9 := ok.n9
  have := lks_bd (l := (lA s).take k) (p := s.st) (fun q hq => by
    rw [List.length_take, lA_len] at hq
    rw [gx_take (by omega)]; exact lA_ok ok q (by rw [lA_len]; omega)) i j
  rw [List.length_take, lA_len] at this
  omega
theorem l_specLinksRow {s : Survey} (ok : SurveyOk s) {i n : Nat} (hn : (n : Int) = s.st - 1) (hi : i < n) :
    loop (p_spec_Links_L1 s ((i : Int) + 1) n) (0, List.replicate n 0) = some (row1 n (lks (lA s) i)) := by
  have p1 := ok.p1; have p6 := ok.p6; have n9 := ok.n9
  have := loop_stop (B := p_spec_Links_L1 s ((i : Int) + 1) n) (fun k => ((k : Int), row1 n (lks ((lA s).take k) i))) s.legs.length (e := row1 n (lks (lA s) i)) (fun k hk => by
    simp only [p_spec_Links_L1]
    have a := ok.lg k hk
    have a1 := a.f0; have a2 := a.f1; have a3 := a.t0; have a4 := a.t1; have a5 := a.ne
    have hb : ∀ j, -54 ≤ lks ((lA s).take k) i j ∧ lks ((lA s).take k) i j ≤ 54 := fun j => take_bd ok (Nat.le_of_lt hk) i j
    have ei : w64 ((i : Int) + 1 - 1) = (i : Int) := by rw [w64_in (by omega) (by omega)]; omega
    have ht : ∀ j, lks ((lA s).take (k + 1)) i j = lks ((lA s).take k) i j + lk (aw1 (gx s.legs k)) i j := fun j => by
      rw [lks_take (by rw [lA_len]; exact hk), lA_gx hk]
    have lr : ∀ j, lk (aw1 (gx s.legs k)) i j = (if (gx s.legs k).t = (i : Int) + 1 then (if j = i then 1 else 0) - (if (gx s.legs k).f = (j : Int) + 1 then 1 else 0) else if (gx s.legs k).f = (i : Int) + 1 then (if j = i then 1 else 0) - (if (gx s.legs k).t = (j : Int) + 1 then 1 else 0) else 0) := fun j => lk_row (a := aw1 (gx s.legs k)) a5
    rw [decide_eq_true (by omega), idx_at hk, w64_succ (by omega), ei]
    simp only [cond_true, beq_dec, p_spec_LegBack, Option.bind_some]
    have other : ∀ x : Int, 0 ≤ x → x < s.st → x ≠ (i : Int) + 1 → (∀ j, lk (aw1 (gx s.legs k)) i j = (if j = i then 1 else 0) - (if x = (j : Int) + 1 then 1 else 0)) →
        (idx n (i : Int) fun j54 => cond (decide (0 < x)) (idx n (w64 (x - 1)) fun j57 => some (Lp.next (((k + 1 : Nat) : Int), ((row1 n (lks ((lA s).take k) i)).set j54 (w64 ((gx (row1 n (lks ((lA s).take k) i)) j54) + 1))).set j57 (w64 ((gx ((row1 n (lks ((lA s).take k) i)).set j54 (w64 ((gx (row1 n (lks ((lA s).take k) i)) j54) + 1))) j57) - 1)))))
          (some (.next (((k + 1 : Nat) : Int), (row1 n (lks ((lA s).take k) i)).set j54 (w64 ((gx (row1 n (lks ((lA s).take k) i)) j54) + 1)))))) = (some (.next (((k + 1 : Nat) : Int), row1 n (lks ((lA s).take (k + 1)) i))) : O (Lp (Int × List Int) (List Int))) := by
      intro x hx0 hx1 hxi hlk
      have hbi := hb i
      rw [idx_at hi, row1_set hi, row1_gx hi, w64_in (x := lks ((lA s).take k) i i + 1) (by omega) (by omega)]
      by_cases hx : 0 < x
      · have ex : w64 (x - 1) = (((x - 1).toNat : Nat) : Int) := by rw [w64_in (by omega) (by omega)]; omega
        have hxn : (x - 1).toNat < n := by omega
        have hbx := hb (x - 1).toNat
        rw [decide_eq_true hx, ex, idx_at hxn, row1_set hxn, row1_gx hxn, if_neg (by omega), w64_in (by omega) (by omega)]
        simp only [cond_true]
        congr 3
        apply row1_ext; intro j hj
        rw [ht, hlk j]
        by_cases e1 : j = i <;> by_cases e2 : j = (x - 1).toNat
        · omega
        · subst e1; rw [if_neg e2, if_pos rfl, if_pos rfl, if_neg (by omega)]; omega
        · subst e2; rw [if_pos rfl, if_neg e1, if_pos (by omega)]; omega
        · rw [if_neg e2, if_neg e1, if_neg e1, if_neg (by omega)]; omega
      · rw [decide_eq_false hx]
        simp only [cond_false]
        congr 3
        apply row1_ext; intro j hj
        rw [ht, hlk j]
        by_cases e1 : j = i
        · subst e1; rw [if_pos rfl, if_pos rfl, if_neg (by omega)]; omega
        · rw [if_neg e1, if_neg e1, if_neg (by omega)]; omega
    by_cases htt : (gx s.legs k).t = (i : Int) + 1
    · rw [decide_eq_true htt]
      simp only [cond_true, Option.bind_some, decide_eq_true htt]
      exact other _ a1 a2 (by omega) (fun j => by rw [lr, if_pos htt])
    · rw [decide_eq_false htt]
      simp only [cond_false, Option.bind_some]
      by_cases hf : (gx s.legs k).f = (i : Int) + 1
      · rw [decide_eq_true hf]
        simp only [cond_true]
        exact other _ a3 a4 (by omega) (fun j => by rw [lr, if_neg htt, if_pos hf])
      · rw [decide_eq_false hf]
        simp only [cond_false]
        congr 3
        apply row1_ext; intro j hj
        rw [ht, lr, if_neg htt, if_neg hf]; omega) (by
    simp only [p_spec_Links_L1]
    rw [decide_eq_false (by omega), ← lA_len, List.take_length]; rfl)
  rw [show ((0 : Int), List.replicate n (0 : Int)) = (((0 : Nat) : Int), row1 n (lks ((lA s).take 0) i)) from by rw [row1_zero]; rfl, this]
theorem l_specLinks {s : Survey} (h : s.legs.length ≤ 4611686018427387904) : p_spec_Links s = some (lkM s) := by
  unfold p_spec_Links
  have hmm : (⟨s.st, s.legs⟩ : Survey) = s := rfl
  cases hv : surveyOk s with
  | false =>
    rw [loop_out (e := []) (by
      simp only [p_spec_Links_L0, hmm, l_specSurveyValid h, hv, Option.bind_some]
      cases decide (1 < s.st) <;> rfl)]
    unfold lkM; rw [hv]; rfl
  | true =>
    have ok := surveyOk_iff.1 hv
    have p1 := ok.p1; have p6 := ok.p6; have n9 := ok.n9
    rw [lkM_ok ok]
    have hn : ((mS s : Nat) : Int) = s.st - 1 := by unfold mS; omega
    generalize mS s = n at hn
    have hw : w64 (s.st - 1) = (n : Int) := by rw [w64_in (by omega) (by omega)]; omega
    have := loop_stop (B := p_spec_Links_L0 s) (fun k => ((tab n (lks (lA s))).take k, (k : Int) + 1)) n (e := tab n (lks (lA s))) (fun k hk => by
      simp only [p_spec_Links_L0, hmm, l_specSurveyValid h, hv, Option.bind_some]
      rw [decide_eq_true (by omega), hw, sized_at (by omega), l_specLinksRow ok hn hk, w64_in (by omega) (by omega)]
      simp only [cond_true, Option.bind_some]
      rw [need_of (by rw [List.length_take]; omega), take_gx (by rw [tab_len]; exact hk), tab_gx hk]
      congr 3) (by
      simp only [p_spec_Links_L0, hmm, l_specSurveyValid h, hv, Option.bind_some]
      rw [decide_eq_false (by omega), List.take_of_length_le (by rw [tab_len]; exact Nat.le_refl _)]; rfl)
    rw [show (([] : List (List Int)), (1 : Int)) = ((tab n (lks (lA s))).take 0, ((0 : Nat) : Int) + 1) from rfl, this]; rfl
theorem lkM_rows {s : Survey} : (lkM s).length ≤ 4611686018427387904 ∧ ∀ k, k < (lkM s).length → (gx (lkM s) k).length ≤ 4611686018427387904 := by
  unfold lkM
  cases hv : surveyOk s with
  | false => simp
  | true =>
    have ok := surveyOk_iff.1 hv
    have p6 := ok.p6
    have hm : mS s ≤ 5 := by unfold mS; omega
    simp only [if_true]
    exact ⟨by rw [tab_len]; omega, fun k hk => by rw [tab_len] at hk; rw [tab_gx hk, row1_len]; omega⟩
theorem lkM_bd {s : Survey} (ok : SurveyOk s) (i j : Nat) : -54 ≤ L0 (lE s) i j ∧ L0 (lE s) i j ≤ 54 := by
  have := take_bd ok (Nat.le_refl _) i j
  rw [← lA_len, List.take_length, lks_lE ok] at this
  exact this
theorem det_lkM {s : Survey} (ok : SurveyOk s) : det (lkM s) = D (mS s) (lE s) := by
  have p6 := ok.p6
  have hm : mS s ≤ 5 := by unfold mS; omega
  unfold lkM; rw [if_pos (surveyOk_iff.2 ok)]
  exact det_tab hm fun i _ j _ => by have := lkM_bd ok i j; omega
/-- How many trees a survey has. -/
def tm (s : Survey) : Int := if surveyOk s then D (mS s) (lE s) else -1
theorem lE_w {s : Survey} : ∀ e ∈ lE s, 0 < e.w := fun e he => by
  unfold lE at he
  obtain ⟨g, _, rfl⟩ := List.mem_map.1 he
  exact (by decide : (0 : Int) < 1)
/-- The legs with one direction. -/
def Ec (s : Survey) (c : Leg → Int) : List Ed := s.legs.map (eL c)
theorem Ec_len {s : Survey} {c : Leg → Int} : (Ec s c).length = s.legs.length := by simp [Ec]
theorem Ec_gx {s : Survey} {c : Leg → Int} {k : Nat} (h : k < s.legs.length) : gx (Ec s c) k = eL c (gx s.legs k) := by unfold Ec; rw [gx_of_map h]
theorem Ec_L0 {s : Survey} {c : Leg → Int} : L0 (Ec s c) = L0 (lE s) := by
  funext i j
  unfold L0 lap Ec lE
  induction s.legs with
  | nil => rfl
  | cons g l ih => simp only [List.map_cons, es]; rw [ih]; rfl
/-- A direction's steps are small. -/
def Dir (c : Leg → Int) : Prop := ∀ p g, LegOk p g → -99 ≤ c g ∧ c g ≤ 99
theorem dir_e : Dir Leg.e := fun _ _ h => ⟨h.e0, h.e1⟩
theorem dir_n : Dir Leg.n := fun _ _ h => ⟨h.n0, h.n1⟩
theorem dir_u : Dir Leg.u := fun _ _ h => ⟨h.u0, h.u1⟩
def rq (s : Survey) (c : Leg → Int) (k v : Nat) : Int := sm k fun j => xv (eL c (gx s.legs j)) v * c (gx s.legs j)
theorem rq_all {s : Survey} {c : Leg → Int} {v : Nat} : rq s c s.legs.length v = rhs (Ec s c) v := by
  unfold rq rhs
  rw [es_ix, Ec_len]
  refine sm_congr fun j hj => ?_
  rw [Ec_gx hj]
  show _ = 1 * xv (eL c (gx s.legs j)) v * c (gx s.legs j)
  rw [Int.one_mul]
theorem xv_one {e : Ed} {v : Nat} : xv e v = -1 ∨ xv e v = 0 ∨ xv e v = 1 := by unfold xv; (repeat' split) <;> omega
theorem rq_bd {s : Survey} {c : Leg → Int} (ok : SurveyOk s) (hc : Dir c) {v : Nat} : ∀ {k : Nat}, k ≤ s.legs.length → -(99 * (k : Int)) ≤ rq s c k v ∧ rq s c k v ≤ 99 * (k : Int)
  | 0, _ => by simp [rq, sm]
  | k + 1, h => by
    have h1 := rq_bd ok hc (v := v) (k := k) (by omega)
    have h2 := hc _ _ (ok.lg k (by omega))
    show -(99 * ((k + 1 : Nat) : Int)) ≤ rq s c k v + xv (eL c (gx s.legs k)) v * c (gx s.legs k) ∧ rq s c k v + xv (eL c (gx s.legs k)) v * c (gx s.legs k) ≤ 99 * ((k + 1 : Nat) : Int)
    rcases xv_one (e := eL c (gx s.legs k)) (v := v) with e | e | e <;> rw [e] <;> omega
theorem l_specRight {s : Survey} {c : Leg → Int} {d : Nat} (ok : SurveyOk s) (hc : Dir c) (hd : d < 3) (he : ∀ k, k < s.legs.length → gx ([(gx s.legs k).e, (gx s.legs k).n, (gx s.legs k).u] : List Int) d = c (gx s.legs k)) :
    p_spec_l2Right s (d : Int) = some (row1 (mS s) fun k => rhs (Ec s c) (k + 1)) := by
  have p1 := ok.p1; have p6 := ok.p6; have n9 := ok.n9
  unfold p_spec_l2Right
  have hn : s.st = ((mS s + 1 : Nat) : Int) := by unfold mS; omega
  have h5 : mS s ≤ 5 := by unfold mS; omega
  rw [hn, sized_at (by omega)]
  rw [loop_to (B := p_spec_l2Right_L0 s (d : Int) (mS s + 1)) (fun k => ((k : Int), row1 (mS s + 1) (rq s c k))) s.legs.length (by rw [row1_zero]; rfl) (e := row1 (mS s + 1) (rhs (Ec s c))) (fun k hk => by
    simp only [p_spec_l2Right_L0]
    have a := ok.lg k hk
    obtain ⟨x, hx⟩ := Int.eq_ofNat_of_zero_le a.f0
    obtain ⟨y, hy⟩ := Int.eq_ofNat_of_zero_le a.t0
    have a1 := a.f1; have a2 := a.t1; have ne := a.ne
    have hcd := hc _ _ a
    have b1 := rq_bd ok hc (v := y) (Nat.le_of_lt hk)
    have b2 := rq_bd ok hc (v := x) (Nat.le_of_lt hk)
    rw [decide_eq_true (by omega), idx_at hk, w64_succ (by omega), hx, hy]
    simp only [cond_true]
    rw [idx_at hd, idx_at (by omega), idx_at (by omega), he k hk, row1_gx (by omega), row1_set (by omega), row1_gx (by omega), if_neg (by omega), row1_set (by omega), w64_i (x := rq s c k y + c (gx s.legs k)) (by omega), w64_i (x := rq s c k x - c (gx s.legs k)) (by omega)]
    congr 3
    apply row1_ext; intro v hv
    show _ = rq s c k v + xv (eL c (gx s.legs k)) v * c (gx s.legs k)
    unfold xv eL
    simp only [hx, hy, Int.toNat_natCast]
    by_cases c1 : v = x
    · subst c1
      rw [if_pos rfl, if_neg (by omega), if_pos rfl]; omega
    · rw [if_neg c1, if_neg (show ¬ x = v by omega)]
      by_cases c2 : v = y
      · subst c2; rw [if_pos rfl, if_pos rfl]; omega
      · rw [if_neg c2, if_neg (show ¬ y = v by omega)]; omega) (by
    simp only [p_spec_l2Right_L0]
    rw [decide_eq_false (by omega)]
    simp only [cond_false]
    congr 2
    exact row1_ext fun v _ => rq_all)]
  simp only [Option.bind_some]
  rw [cut_one (by omega), row1_drop]
/-- The places that miss least, times the number of trees. -/
def pA (s : Survey) (c : Leg → Int) (v : Nat) : Int := so (mS s) (Ec s c) (rhs (Ec s c)) v
theorem solve_pA {s : Survey} {c : Leg → Int} (ok : SurveyOk s) (hc : Dir c) (h1 : one (mS s) (sP s) = true) :
    sv (lkM s) (row1 (mS s) fun k => rhs (Ec s c) (k + 1)) = (row1 (mS s) fun k => pA s c (k + 1), tm s) := by
  have p6 := ok.p6; have n9 := ok.n9
  have h5 : mS s ≤ 5 := by unfold mS; omega
  have hM : lkM s = tab (mS s) (L0 (lE s)) := by unfold lkM; rw [if_pos (surveyOk_iff.2 ok)]
  have hl : (lkM s).length = mS s := by rw [hM, tab_len]
  have ht : tm s = D (mS s) (lE s) := by unfold tm; rw [if_pos (surveyOk_iff.2 ok)]
  have hD : 0 < D (mS s) (lE s) := (D_pos (sv_in ok) lE_w).2 (conn_iff.1 h1)
  have hs : svOk (lkM s) (row1 (mS s) fun k => rhs (Ec s c) (k + 1)) = true := by
    unfold svOk
    have hm : MatOk (lkM s) := by
      rw [hM]
      exact ⟨by rw [tab_len]; exact h5, fun k hk => by rw [tab_len] at hk; rw [tab_gx hk, row1_len, tab_len], fun i hi j hj => by
        rw [tab_len] at hi hj
        show -999 ≤ fm (tab (mS s) (L0 (lE s))) i j ∧ fm (tab (mS s) (L0 (lE s))) i j ≤ 999
        rw [fm_tab hi hj]
        have := lkM_bd ok i j; omega⟩
    rw [matOk_iff.2 hm, row1_len, hl, det_lkM ok, decide_eq_false (show ¬ D (mS s) (lE s) = 0 by omega)]
    have hr : rowOk (row1 (mS s) fun k => rhs (Ec s c) (k + 1)) = true := by
      unfold rowOk
      rw [List.all_eq_true]
      intro k hk
      rw [List.mem_range, row1_len] at hk
      have := rq_bd ok hc (v := k + 1) (Nat.le_refl s.legs.length)
      rw [rq_all] at this
      rw [row1_gx hk, Bool.and_eq_true, decide_eq_true_eq, decide_eq_true_eq]; omega
    rw [hr]; simp
  unfold sv
  rw [if_pos hs, hl, det_lkM ok, ht]
  congr 1
  apply row1_ext; intro k hk
  unfold pA so
  rw [Ec_L0, hM]
  refine dt_congr fun i hi j hj => ?_
  unfold uc
  split
  · rw [row1_gx hi]
  · rw [fm_tab hi hj]
/-- What an adjusted survey is. -/
def wsA (s : Survey) : List Way := (List.range (mS s + 1)).map fun v => ⟨pA s Leg.e v, pA s Leg.n v, pA s Leg.u v⟩
theorem wsA_len {s : Survey} : (wsA s).length = mS s + 1 := by simp [wsA]
theorem wsA_gx {s : Survey} {v : Nat} (h : v < mS s + 1) : gx (wsA s) v = ⟨pA s Leg.e v, pA s Leg.n v, pA s Leg.u v⟩ := by
  unfold wsA; rw [gx_of_map (by simpa using h), gx_range h]
def adjOk (s : Survey) : Bool := surveyOk s && (pm s == 1)
def adj (s : Survey) : Fix × Bool := if adjOk s then (⟨tm s, wsA s⟩, true) else (⟨0, []⟩, false)
theorem l_specAdjust {s : Survey} (h : s.legs.length ≤ 4611686018427387904) : p_spec_Adjust s = some (adj s) := by
  unfold p_spec_Adjust adj adjOk
  rw [show (⟨s.st, s.legs⟩ : Survey) = s from rfl, l_specSurveyValid h, l_specPartsMany h]
  cases hv : surveyOk s with
  | false => rfl
  | true =>
    have ok := surveyOk_iff.1 hv
    have p1 := ok.p1; have p6 := ok.p6; have n9 := ok.n9
    have h5 : mS s ≤ 5 := by unfold mS; omega
    simp only [Option.bind_some, Bool.not_true, cond_false, Bool.true_and, bne]
    cases hp : (pm s == 1) with
    | false => rfl
    | true =>
      have h1 : one (mS s) (sP s) = true := by rw [← hp, pm_one ok]; rfl
      simp only [Bool.not_true, cond_false, if_true]
      rw [l_specLinks h]
      have r0 := l_specRight (c := Leg.e) (d := 0) ok dir_e (by omega) (fun k _ => rfl)
      have r1 := l_specRight (c := Leg.n) (d := 1) ok dir_n (by omega) (fun k _ => rfl)
      have r2 := l_specRight (c := Leg.u) (d := 2) ok dir_u (by omega) (fun k _ => rfl)
      rw [show ((0 : Nat) : Int) = 0 from rfl] at r0
      rw [show ((1 : Nat) : Int) = 1 from rfl] at r1
      rw [show ((2 : Nat) : Int) = 2 from rfl] at r2
      rw [r0, r1, r2]
      simp only [Option.bind_some]
      rw [l_specSolve lkM_rows.1 lkM_rows.2 (by rw [row1_len]; omega), l_specSolve lkM_rows.1 lkM_rows.2 (by rw [row1_len]; omega), l_specSolve lkM_rows.1 lkM_rows.2 (by rw [row1_len]; omega), solve_pA ok dir_e h1, solve_pA ok dir_n h1, solve_pA ok dir_u h1]
      simp only [Option.bind_some]
      rw [loop_to (B := p_spec_Adjust_L0 (row1 (mS s) fun k => pA s Leg.e (k + 1)) (row1 (mS s) fun k => pA s Leg.n (k + 1)) (row1 (mS s) fun k => pA s Leg.u (k + 1))) (fun k => ((k : Int), (wsA s).take (k + 1))) (mS s) (by
        rw [take_gx (by rw [wsA_len]; omega), wsA_gx (by omega)]; rfl) (e := wsA s) (fun k hk => by
        simp only [p_spec_Adjust_L0]
        rw [row1_len, decide_eq_true (by omega), idx_at hk, row1_len, idx_at hk, row1_len, idx_at hk, row1_gx hk, row1_gx hk, row1_gx hk, need_of (by simp; omega), w64_succ (by omega), take_gx (k := k + 1) (by rw [wsA_len]; omega), wsA_gx (by omega)]; rfl) (by
        simp only [p_spec_Adjust_L0]
        rw [row1_len, decide_eq_false (by omega), List.take_of_length_le (by rw [wsA_len]; omega)]; rfl)]
      rfl

def wi (x : Int) : Bool := decide (-99999 ≤ x) && decide (x ≤ 99999)
def wayB (w : Way) : Bool := wi w.e && (wi w.n && wi w.u)
def z1 (w : Way) : Bool := (w.e == 0) && (w.n == 0) && (w.u == 0)
/-- Is a fix of the survey valid? -/
def fixOk (s : Survey) (f : Fix) : Bool := surveyOk s && (decide (1 ≤ f.den) && (decide (f.den ≤ 999) && (decide ((f.nums.length : Int) = s.st) && (z1 (gx f.nums 0) && (List.range f.nums.length).all fun k => wayB (gx f.nums k)))))
theorem l_specFixLoop {f : Fix} (h : f.nums.length ≤ 1000) : loop (p_spec_FixValid_L0 f) 0 = some (cond ((List.range f.nums.length).all fun k => wayB (gx f.nums k)) (.inl ()) (.inr false)) :=
  loop_all (fun k => wayB (gx f.nums k)) f.nums.length false (fun k hk => by
    simp only [p_spec_FixValid_L0]
    rw [decide_eq_true (by omega), idx_at hk, w64_succ (by omega)]
    simp only [cond_true, l_l1In, Option.bind_some]
    show _ = some (cond (wi (gx f.nums k).e && (wi (gx f.nums k).n && wi (gx f.nums k).u)) _ _)
    show cond (!wi (gx f.nums k).e) _ (cond (!wi (gx f.nums k).n) _ (cond (!wi (gx f.nums k).u) _ _)) = _
    cases wi (gx f.nums k).e <;> cases wi (gx f.nums k).n <;> cases wi (gx f.nums k).u <;> rfl) (by
    simp only [p_spec_FixValid_L0]
    rw [decide_eq_false (by omega)]; rfl)
theorem l_implFixLoop {f : Fix} (h : f.nums.length ≤ 1000) : loop (p_impl_FixValid_L0 f) 0 = some (cond ((List.range f.nums.length).all fun k => wayB (gx f.nums k)) (.inl ()) (.inr false)) :=
  loop_all (fun k => wayB (gx f.nums k)) f.nums.length false (fun k hk => by
    simp only [p_impl_FixValid_L0]
    rw [decide_eq_true (by omega), idx_at hk, w64_succ (by omega)]
    rw [l_isWithin (by omega), l_isWithin (by omega), l_isWithin (by omega)]
    simp only [cond_true, Option.bind_some]
    show _ = some (cond (wi (gx f.nums k).e && (wi (gx f.nums k).n && wi (gx f.nums k).u)) _ _)
    show cond (!wi (gx f.nums k).e) _ (cond (!wi (gx f.nums k).n) _ (cond (!wi (gx f.nums k).u) _ _)) = _
    cases wi (gx f.nums k).e <;> cases wi (gx f.nums k).n <;> cases wi (gx f.nums k).u <;> rfl) (by
    simp only [p_impl_FixValid_L0]
    rw [decide_eq_false (by omega)]; rfl)
theorem l_specFixValid {s : Survey} {f : Fix} (h : s.legs.length ≤ 4611686018427387904) : p_spec_FixValid s f = some (fixOk s f) := by
  unfold p_spec_FixValid fixOk
  rw [show (⟨s.st, s.legs⟩ : Survey) = s from rfl, l_specSurveyValid h, l_l1In]
  cases hv : surveyOk s with
  | false => rfl
  | true =>
    have ok := surveyOk_iff.1 hv
    have p1 := ok.p1; have p6 := ok.p6
    cases h1 : decide (1 ≤ f.den)
    · rfl
    cases h2 : decide (f.den ≤ 999)
    · rfl
    by_cases h3 : (f.nums.length : Int) = s.st
    · rw [decide_eq_true h3, show (((f.nums.length : Nat) : Int) != s.st) = false by rw [h3]; simp, show idx (β := Bool) f.nums.length 0 = idx f.nums.length ((0 : Nat) : Int) from rfl, idx_at (by omega), l_specFixLoop (by omega)]
      show ((some (!z1 (gx f.nums 0))).bind _) = _
      cases z1 (gx f.nums 0) <;> cases (List.range f.nums.length).all (fun k => wayB (gx f.nums k)) <;> rfl
    · rw [decide_eq_false h3, show (((f.nums.length : Nat) : Int) != s.st) = true from bne_iff_ne.2 h3]; rfl
theorem l_implFixValid {s : Survey} {f : Fix} (h : s.legs.length ≤ 4611686018427387904) : p_impl_FixValid s f = some (fixOk s f) := by
  unfold p_impl_FixValid fixOk
  rw [show (⟨s.st, s.legs⟩ : Survey) = s from rfl, l_implSurveyValid h]
  cases hv : surveyOk s with
  | false => rfl
  | true =>
    have ok := surveyOk_iff.1 hv
    have p1 := ok.p1; have p6 := ok.p6
    rw [show decide (f.den < 1) = !decide (1 ≤ f.den) from not_dec (by omega), show decide (999 < f.den) = !decide (f.den ≤ 999) from not_dec (by omega)]
    cases h1 : decide (1 ≤ f.den)
    · rfl
    cases h2 : decide (f.den ≤ 999)
    · rfl
    by_cases h3 : (f.nums.length : Int) = s.st
    · rw [decide_eq_true h3, show (((f.nums.length : Nat) : Int) != s.st) = false by rw [h3]; simp, show idx (β := Bool) f.nums.length 0 = idx f.nums.length ((0 : Nat) : Int) from rfl, idx_at (by omega), l_implFixLoop (by omega)]
      show ((some (!z1 (gx f.nums 0))).bind _) = _
      cases z1 (gx f.nums 0) <;> cases (List.range f.nums.length).all (fun k => wayB (gx f.nums k)) <;> rfl
    · rw [decide_eq_false h3, show (((f.nums.length : Nat) : Int) != s.st) = true from bne_iff_ne.2 h3]; rfl
theorem adj_small {s : Survey} (h : s.st ≤ 7) : (adj s).1.nums.length ≤ 10 := by
  unfold adj
  split
  · show (wsA s).length ≤ 10
    rw [wsA_len]; unfold mS; omega
  · exact Nat.zero_le _
theorem t_fix {b : List UInt8} {p : Int} (hb : b.length ≤ 2000) (hp : 0 ≤ p ∧ p ≤ 10000) :
    Tot (p_spec_l20Fix ⟨b, p⟩) fun r => p ≤ r.2.2 ∧ r.2.2 ≤ p + 6000 ∧ r.1.legs.length ≤ 10 ∧ 0 ≤ r.1.st ∧ r.1.st ≤ 7 ∧ r.2.1.nums.length ≤ 10 := by
  simp only [p_spec_l20Fix]
  refine Tot.bind (t_linked hb (by omega) (by omega)) fun ⟨v5, v6⟩ h5 => ?_
  simp only at h5 ⊢
  rw [show (⟨v5.st, v5.legs⟩ : Survey) = v5 from rfl, l_specAdjust (by omega)]
  simp only [Option.bind_some]
  have ha := adj_small h5.2.2.2.2
  refine Tot.bind (R := fun r => v6 ≤ r.2 ∧ r.2 ≤ v6 + 1) ?_ fun ⟨x15, p16⟩ h15 => ?_
  · refine Tot.cond (fun _ => Tot.ret (by simp only; omega)) (fun _ => ?_)
    refine Tot.bind (x_pick hb (by omega) (by omega)) fun ⟨v22, v23⟩ h22 => Tot.ret ?_
    simp only at h22 ⊢; omega
  simp only at h15 ⊢
  refine Tot.bind (R := fun r => v6 ≤ r.1 ∧ r.1 ≤ v6 + 3 ∧ r.2.2.length ≤ 10) ?_ fun ⟨p28, den29, nums30⟩ h28 => ?_
  · refine Tot.cond (fun _ => ?_) (fun _ => Tot.ret (by simp only; omega))
    refine Tot.bind (x_pick hb (by omega) (by omega)) fun ⟨v36, v37⟩ h36 => ?_
    simp only at h36 ⊢
    refine Tot.bind (R := fun l => l.length ≤ 10) ?_ fun nums39 h39 => Tot.ret (by simp only; omega)
    refine Tot.loop (fun z => 0 ≤ z.1 ∧ z.1 ≤ 9 ∧ (z.2.length : Int) = z.1) (fun z => (10 - z.1).toNat) (fun ⟨k, nums⟩ h => ?_) (by simp only [List.length_nil]; omega)
    simp only at h
    simp only [p_spec_l20Fix_L0]
    rw [show (⟨v5.st, v5.legs⟩ : Survey) = v5 from rfl]
    refine Tot.bind (R := fun x => x = true → k < 9) ?_ fun x hx => ?_
    · refine Tot.condd (fun _ => Tot.ret (fun h => of_decide_eq_true h)) (fun _ => Tot.ret (fun h => by cases h))
    refine Tot.cond (fun h2 => ?_) (fun _ => Tot.ret (by simp only; omega))
    have := hx h2
    rw [l_specTreePlace (by omega)]
    simp only [Option.bind_some, p_spec_WayTimes]
    refine Tot.need (by simp only [List.length_cons, List.length_nil]; omega) (Tot.ret ?_)
    simp only [List.length_append, List.length_cons, List.length_nil]
    rw [w64_i (x := k + 1) (by omega)]; omega
  simp only at h28 ⊢
  refine Tot.bind (R := fun r => v6 ≤ r.1 ∧ r.1 ≤ v6 + 500 ∧ r.2.length ≤ 10) ?_ fun ⟨p79, l80⟩ h79 => ?_
  · refine Tot.loop (fun z => 1 ≤ z.1 ∧ z.1 ≤ 11 ∧ v6 ≤ z.2.1 ∧ z.2.1 ≤ v6 + 10 * z.1 ∧ z.2.2.length = nums30.length) (fun z => (12 - z.1).toNat) (fun ⟨k, q, l⟩ h => ?_) ⟨by show (1 : Int) ≤ 1; omega, by show (1 : Int) ≤ 11; omega, h28.1, by show p28 ≤ v6 + 10 * 1; omega, rfl⟩
    simp only at h
    simp only [p_spec_l20Fix_L1]
    refine Tot.condd (fun hk => ?_) (fun _ => Tot.ret (by simp only; omega))
    rw [w64_i (x := k + 1) (by omega)]
    refine Tot.bind (x_pick hb (by omega) (by omega)) fun ⟨v93, v94⟩ h93 => ?_
    simp only at h93 ⊢
    refine Tot.cond (fun _ => ?_) (fun _ => Tot.ret (by simp only; omega))
    refine Tot.idx (by omega) fun j ej hj => ?_
    refine Tot.bind (x_pick hb (by omega) (by omega)) fun ⟨v99, v100⟩ h99 => ?_
    simp only at h99 ⊢
    refine Tot.bind (x_pick hb (by omega) (by omega)) fun ⟨v103, v104⟩ h103 => ?_
    simp only at h103 ⊢
    refine Tot.bind (x_pick hb (by omega) (by omega)) fun ⟨v107, v108⟩ h107 => ?_
    simp only at h107 ⊢
    simp only [p_spec_WayAdd, Option.bind_some]
    exact Tot.ret (by simp only [List.length_set]; omega)
  simp only at h79 ⊢
  refine Tot.bind (x_odd hb (by omega) (by omega)) fun ⟨v117, v118⟩ h117 => ?_
  simp only at h117 ⊢
  refine Tot.cond (fun _ => ?_) (fun _ => Tot.ret (by simp only; omega))
  refine Tot.bind (x_pick hb (by omega) (by omega)) fun ⟨v123, v124⟩ h123 => ?_
  simp only at h123 ⊢
  exact Tot.idx (by omega) fun j _ _ => Tot.ret (by simp only; omega)
end Go.Proofs.YtnibfmofkamjoaaDoor
