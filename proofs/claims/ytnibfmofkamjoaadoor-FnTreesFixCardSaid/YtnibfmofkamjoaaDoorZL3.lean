/- Links, trees counted, surveys adjusted, fixes valid and drawn; no condition but the sizes. -/
import Derived.Test.YtnibfmofkamjoaaDoorZLk
import Derived.Test.YtnibfmofkamjoaaDoorZLq
import Derived.Test.YtnibfmofkamjoaaDoorZLc
import Derived.Test.YtnibfmofkamjoaaDoorZLw
import Derived.Test.YtnibfmofkamjoaaDoorZQ
import Derived.Test.YtnibfmofkamjoaaDoorZLp
import Derived.Test.YtnibfmofkamjoaaDoorZLo
import Derived.Test.YtnibfmofkamjoaaDoorZL2
namespace Go.Proofs.YtnibfmofkamjoaaDoor
open Go
set_option linter.unusedVariables false
set_option linter.unusedSimpArgs false

def aw1 (g : Leg) : Airway := ⟨g.f, g.t, 1⟩
def lA (s : Survey) : List Airway := s.legs.map aw1
theorem lA_len {s : Survey} : (lA s).length = s.legs.length := by simp [lA]
theorem lA_gx {s : Survey} {k : Nat} (h : k < s.legs.length) : gx (lA s) k = aw1 (gx s.legs k) := by unfold lA; rw [gx_of_map h]
theorem lA_ok {s : Survey} (ok : SurveyOk s) : ∀ k, k < (lA s).length → AwOk s.st (gx (lA s) k) := fun k hk => by
  rw [lA_len] at hk
  have a := ok.lg k hk
  rw [lA_gx hk]
  exact ⟨a.f0, a.f1, a.t0, a.t1, a.ne, (by decide : (1 : Int) ≤ 1), (by decide : (1 : Int) ≤ 6)⟩
theorem lA_mem {s : Survey} (ok : SurveyOk s) : ∀ a ∈ lA s, AwOk s.st a := fun a ha => by
  obtain ⟨k, hk, rfl⟩ := mem_gx ha
  exact lA_ok ok k hk
theorem lA_eA {s : Survey} : (lA s).map eA = lE s := by
  unfold lA lE; rw [List.map_map]; rfl
/-- The matrix of a survey's links. -/
def lkM (s : Survey) : List (List Int) := if surveyOk s then tab (mS s) (L0 (lE s)) else []
theorem lks_lE {s : Survey} (ok : SurveyOk s) {i j : Nat} : lks (lA s) i j = L0 (lE s) i j := by
  rw [lks_lap (lA_mem ok), lA_eA]; rfl
theorem lkM_ok {s : Survey} (ok : SurveyOk s) : lkM s = tab (mS s) (lks (lA s)) := by
  unfold lkM; rw [if_pos (surveyOk_iff.2 ok)]
  exact tab_ext fun i j _ _ => (lks_lE ok).symm
theorem take_bd {s : Survey} (ok : SurveyOk s) {k : Nat} (hk : k ≤ s.legs.length) (i j : Nat) : -54 ≤ lks ((lA s).take k) i j ∧ lks ((lA s).take k) i j ≤ 54 := by
  have n9 := ok.n9
  have := lks_bd (l := (lA s).take k) (p := s.st) (fun q hq => by
    rw [List.length_take, lA_len] at hq
    rw [gx_take (by omega)]; exact lA_ok ok q (by rw [lA_len]; omega)) i j
  rw [List.length_take, lA_len] at this
  omega
theorem l_implLinks {s : Survey} (h : s.legs.length ≤ 4611686018427387904) : p_impl_Links s = some (lkM s) := by
  unfold p_impl_Links
  rw [show (⟨s.st, s.legs⟩ : Survey) = s from rfl, l_implSurveyValid h]
  cases hv : surveyOk s with
  | false => unfold lkM; rw [hv]; rfl
  | true =>
    have ok := surveyOk_iff.1 hv
    have p1 := ok.p1; have p6 := ok.p6; have n9 := ok.n9
    simp only [Option.bind_some, Bool.not_true, cond_false]
    have e : w64 (s.st - 1) = ((mS s : Nat) : Int) := by rw [w64_in (by omega) (by omega)]; unfold mS; omega
    have hm : mS s ≤ 5 ∧ s.st = (mS s : Int) + 1 := by unfold mS; omega
    rw [e, l_squareOf (by omega), lkM_ok ok]
    simp only [Option.bind_some]
    rw [loop_to (B := p_impl_Links_L0 s) (fun k => ((k : Int), tab (mS s) (lks ((lA s).take k)))) s.legs.length (by rfl) (e := tab (mS s) (lks (lA s))) (fun k hk => by
      simp only [p_impl_Links_L0]
      have a := ok.lg k hk
      have a1 := a.f0; have a2 := a.f1; have a3 := a.t0; have a4 := a.t1; have a5 := a.ne
      rw [decide_eq_true (by omega), idx_at hk, w64_succ (by omega), l_addLink ⟨a1, by omega⟩ ⟨a3, by omega⟩ a5 ⟨by omega, by omega⟩ (by omega) (fun i j => by
        have := take_bd ok (Nat.le_of_lt hk) i j
        omega)]
      simp only [cond_true, Option.bind_some]
      congr 3
      apply tab_ext; intro i j _ _
      rw [lks_take (by rw [lA_len]; exact hk), lA_gx hk]; rfl) (by
      simp only [p_impl_Links_L0]
      rw [decide_eq_false (by omega), ← lA_len, List.take_length]; rfl)]
    rfl
theorem lkM_rows {s : Survey} : (lkM s).length ≤ 4611686018427387904 ∧ ∀ k, k < (lkM s).length → (gx (lkM s) k).length ≤ 4611686018427387904 := by
  unfold lkM
  cases hv : surveyOk s with
  | false => simp
  | true =>
    have ok := surveyOk_iff.1 hv
    have p6 := ok.p6
    have hm : mS s ≤ 5 := by unfold mS; omega
    simp only [if_true]
    exact ⟨by rw [tab_len]; omega, fun k hk => by rw [tab_len] at hk; rw [tab_gx hk, row1_len]; omega⟩
theorem lkM_bd {s : Survey} (ok : SurveyOk s) (i j : Nat) : -54 ≤ L0 (lE s) i j ∧ L0 (lE s) i j ≤ 54 := by
  have := take_bd ok (Nat.le_refl _) i j
  rw [← lA_len, List.take_length, lks_lE ok] at this
  exact this
theorem det_lkM {s : Survey} (ok : SurveyOk s) : det (lkM s) = D (mS s) (lE s) := by
  have p6 := ok.p6
  have hm : mS s ≤ 5 := by unfold mS; omega
  unfold lkM; rw [if_pos (surveyOk_iff.2 ok)]
  exact det_tab hm fun i _ j _ => by have := lkM_bd ok i j; omega
/-- How many trees a survey has. -/
def tm (s : Survey) : Int := if surveyOk s then D (mS s) (lE s) else -1
theorem lE_w {s : Survey} : ∀ e ∈ lE s, 0 < e.w := fun e he => by
  unfold lE at he
  obtain ⟨g, _, rfl⟩ := List.mem_map.1 he
  exact (by decide : (0 : Int) < 1)
theorem lE_w1 {s : Survey} : ∀ e ∈ lE s, e.w = 1 := fun e he => by
  unfold lE at he
  obtain ⟨g, _, rfl⟩ := List.mem_map.1 he
  rfl
theorem filter_count {p : Nat → Bool} {n : Nat} : (((List.range n).filter p).length : Int) = sm n fun t => if p t then 1 else 0 := by
  induction n with
  | zero => rfl
  | succ n ih =>
    rw [List.range_succ, List.filter_append, List.length_append]
    show _ = sm n (fun t => if p t then 1 else 0) + (if p n then 1 else 0)
    rw [← ih]
    cases h : p n <;> simp [h]
theorem tm_sets {s : Survey} (ok : SurveyOk s) : tm s = sm (2 ^ s.legs.length) fun t => if tset s t then 1 else 0 := by
  unfold tm
  rw [if_pos (surveyOk_iff.2 ok), D_ts (sv_in ok), ts_sets, lE_len]
  refine sm_congr fun t _ => ?_
  rw [wT_one lE_w1]; rfl
/-- There are as many trees as are listed. -/
theorem tm_len {s : Survey} (ok : SurveyOk s) : tm s = ((TA s).length : Int) := by
  rw [tm_sets ok]
  unfold TA
  rw [if_pos (surveyOk_iff.2 ok), List.length_map]
  unfold tsets
  rw [filter_count]
theorem l_implPartsMany {s : Survey} (h : s.legs.length ≤ 4611686018427387904) : p_impl_PartsMany s = some (pm s) := by
  unfold p_impl_PartsMany pm
  rw [show (⟨s.st, s.legs⟩ : Survey) = s from rfl, l_implSurveyValid h]
  cases hv : surveyOk s with
  | false => rfl
  | true =>
    have ok := surveyOk_iff.1 hv
    have p6 := ok.p6
    simp only [Option.bind_some, Bool.not_true, cond_false, if_true]
    rw [l_implParts h, if_pos hv]
    simp only [Option.bind_some]
    rw [l_countParts (by omega)]; rfl

/-- The legs with one direction. -/
def Ec (s : Survey) (c : Leg → Int) : List Ed := s.legs.map (eL c)
theorem Ec_len {s : Survey} {c : Leg → Int} : (Ec s c).length = s.legs.length := by simp [Ec]
theorem Ec_gx {s : Survey} {c : Leg → Int} {k : Nat} (h : k < s.legs.length) : gx (Ec s c) k = eL c (gx s.legs k) := by unfold Ec; rw [gx_of_map h]
theorem Ec_in {s : Survey} {c : Leg → Int} (ok : SurveyOk s) : Inm (mS s) (Ec s c) := fun e he => by
  obtain ⟨g, hg, rfl⟩ := List.mem_map.1 he
  exact sv_in ok (eL c0 g) (List.mem_map.2 ⟨g, hg, rfl⟩)
theorem Ec_L0 {s : Survey} {c : Leg → Int} : L0 (Ec s c) = L0 (lE s) := by
  funext i j
  unfold L0 lap Ec lE
  induction s.legs with
  | nil => rfl
  | cons g l ih => simp only [List.map_cons, es]; rw [ih]; rfl
theorem Ec_D {s : Survey} {c : Leg → Int} : D (mS s) (Ec s c) = D (mS s) (lE s) := by unfold D; rw [Ec_L0]
/-- A direction's steps are small. -/
def Dir (c : Leg → Int) : Prop := ∀ p g, LegOk p g → -99 ≤ c g ∧ c g ≤ 99
theorem dir_e : Dir Leg.e := fun _ _ h => ⟨h.e0, h.e1⟩
theorem dir_n : Dir Leg.n := fun _ _ h => ⟨h.n0, h.n1⟩
theorem dir_u : Dir Leg.u := fun _ _ h => ⟨h.u0, h.u1⟩
def rq (s : Survey) (c : Leg → Int) (k v : Nat) : Int := sm k fun j => xv (eL c (gx s.legs j)) v * c (gx s.legs j)
theorem rq_all {s : Survey} {c : Leg → Int} {v : Nat} : rq s c s.legs.length v = rhs (Ec s c) v := by
  unfold rq rhs
  rw [es_ix, Ec_len]
  refine sm_congr fun j hj => ?_
  rw [Ec_gx hj]
  show _ = 1 * xv (eL c (gx s.legs j)) v * c (gx s.legs j)
  rw [Int.one_mul]
theorem xv_one {e : Ed} {v : Nat} : xv e v = -1 ∨ xv e v = 0 ∨ xv e v = 1 := by unfold xv; (repeat' split) <;> omega
theorem rq_bd {s : Survey} {c : Leg → Int} (ok : SurveyOk s) (hc : Dir c) {v : Nat} : ∀ {k : Nat}, k ≤ s.legs.length → -(99 * (k : Int)) ≤ rq s c k v ∧ rq s c k v ≤ 99 * (k : Int)
  | 0, _ => by simp [rq, sm]
  | k + 1, h => by
    have h1 := rq_bd ok hc (v := v) (k := k) (by omega)
    have h2 := hc _ _ (ok.lg k (by omega))
    show -(99 * ((k + 1 : Nat) : Int)) ≤ rq s c k v + xv (eL c (gx s.legs k)) v * c (gx s.legs k) ∧ rq s c k v + xv (eL c (gx s.legs k)) v * c (gx s.legs k) ≤ 99 * ((k + 1 : Nat) : Int)
    rcases xv_one (e := eL c (gx s.legs k)) (v := v) with e | e | e <;> rw [e] <;> omega
/-- The places that miss least, times the number of trees. -/
def pA (s : Survey) (c : Leg → Int) (v : Nat) : Int := so (mS s) (Ec s c) (rhs (Ec s c)) v
theorem solve_pA {s : Survey} {c : Leg → Int} (ok : SurveyOk s) (hc : Dir c) (h1 : one (mS s) (sP s) = true) :
    sv (lkM s) (row1 (mS s) fun k => rhs (Ec s c) (k + 1)) = (row1 (mS s) fun k => pA s c (k + 1), tm s) := by
  have p6 := ok.p6; have n9 := ok.n9
  have h5 : mS s ≤ 5 := by unfold mS; omega
  have hM : lkM s = tab (mS s) (L0 (lE s)) := by unfold lkM; rw [if_pos (surveyOk_iff.2 ok)]
  have hl : (lkM s).length = mS s := by rw [hM, tab_len]
  have ht : tm s = D (mS s) (lE s) := by unfold tm; rw [if_pos (surveyOk_iff.2 ok)]
  have hD : 0 < D (mS s) (lE s) := (D_pos (sv_in ok) lE_w).2 (conn_iff.1 h1)
  have hs : svOk (lkM s) (row1 (mS s) fun k => rhs (Ec s c) (k + 1)) = true := by
    unfold svOk
    have hm : MatOk (lkM s) := by
      rw [hM]
      exact ⟨by rw [tab_len]; exact h5, fun k hk => by rw [tab_len] at hk; rw [tab_gx hk, row1_len, tab_len], fun i hi j hj => by
        rw [tab_len] at hi hj
        show -999 ≤ fm (tab (mS s) (L0 (lE s))) i j ∧ fm (tab (mS s) (L0 (lE s))) i j ≤ 999
        rw [fm_tab hi hj]
        have := lkM_bd ok i j; omega⟩
    rw [matOk_iff.2 hm, row1_len, hl, det_lkM ok, decide_eq_false (show ¬ D (mS s) (lE s) = 0 by omega)]
    have hr : rowOk (row1 (mS s) fun k => rhs (Ec s c) (k + 1)) = true := by
      unfold rowOk
      rw [List.all_eq_true]
      intro k hk
      rw [List.mem_range, row1_len] at hk
      have := rq_bd ok hc (v := k + 1) (Nat.le_refl s.legs.length)
      rw [rq_all] at this
      rw [row1_gx hk, Bool.and_eq_true, decide_eq_true_eq, decide_eq_true_eq]; omega
    rw [hr]; simp
  unfold sv
  rw [if_pos hs, hl, det_lkM ok, ht]
  congr 1
  apply row1_ext; intro k hk
  unfold pA so
  rw [Ec_L0, hM]
  refine dt_congr fun i hi j hj => ?_
  unfold uc
  split
  · rw [row1_gx hi]
  · rw [fm_tab hi hj]
/-- What an adjusted survey is. -/
def wsA (s : Survey) : List Way := (List.range (mS s + 1)).map fun v => ⟨pA s Leg.e v, pA s Leg.n v, pA s Leg.u v⟩
theorem wsA_len {s : Survey} : (wsA s).length = mS s + 1 := by simp [wsA]
theorem wsA_gx {s : Survey} {v : Nat} (h : v < mS s + 1) : gx (wsA s) v = ⟨pA s Leg.e v, pA s Leg.n v, pA s Leg.u v⟩ := by
  unfold wsA; rw [gx_of_map (by simpa using h), gx_range h]
def adjOk (s : Survey) : Bool := surveyOk s && (pm s == 1)
def adj (s : Survey) : Fix × Bool := if adjOk s then (⟨tm s, wsA s⟩, true) else (⟨0, []⟩, false)
theorem adj_small {s : Survey} (h : s.st ≤ 7) : (adj s).1.nums.length ≤ 10 := by
  unfold adj
  split
  · show (wsA s).length ≤ 10
    rw [wsA_len]; unfold mS; omega
  · exact Nat.zero_le _
end Go.Proofs.YtnibfmofkamjoaaDoor
