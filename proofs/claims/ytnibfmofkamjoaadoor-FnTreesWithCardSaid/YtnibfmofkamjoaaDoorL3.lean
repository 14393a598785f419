/- Links, trees counted: both programs compute the same; no condition but the sizes. -/
import Derived.Test.YtnibfmofkamjoaaDoorLl
import Derived.Test.YtnibfmofkamjoaaDoorLq
import Derived.Test.YtnibfmofkamjoaaDoorLd
import Derived.Test.YtnibfmofkamjoaaDoorLw
import Derived.Test.YtnibfmofkamjoaaDoorQbn
import Derived.Test.YtnibfmofkamjoaaDoorQbq
namespace Go.Proofs.YtnibfmofkamjoaaDoor
open Go
set_option linter.unusedVariables false
set_option linter.unusedSimpArgs false

/-! The links of a survey, its trees, its trees with a leg: both programs compute the same; no condition but the sizes. -/

def aw1 (g : Leg) : Airway := ⟨g.f, g.t, 1⟩
def lA (s : Survey) : List Airway := s.legs.map aw1
theorem lA_len {s : Survey} : (lA s).length = s.legs.length := by simp [lA]
theorem lA_gx {s : Survey} {k : Nat} (h : k < s.legs.length) : gx (lA s) k = aw1 (gx s.legs k) := by unfold lA; rw [gx_of_map h]
theorem lA_ok {s : Survey} (ok : SurveyOk s) : ∀ k, k < (lA s).length → AwOk s.st (gx (lA s) k) := fun k hk => by
  rw [lA_len] at hk
  have a := ok.lg k hk
  rw [lA_gx hk]
  exact ⟨a.f0, a.f1, a.t0, a.t1, a.ne, (by decide : (1 : Int) ≤ 1), (by decide : (1 : Int) ≤ 6)⟩
theorem lA_mem {s : Survey} (ok : SurveyOk s) : ∀ a ∈ lA s, AwOk s.st a := fun a ha => by
  obtain ⟨k, hk, rfl⟩ := mem_gx ha
  exact lA_ok ok k hk
theorem lA_eA {s : Survey} : (lA s).map eA = lE s := by
  unfold lA lE; rw [List.map_map]; rfl
/-- The matrix of a survey's links. -/
def lkM (s : Survey) : List (List Int) := if surveyOk s then tab (mS s) (L0 (lE s)) else []
theorem lks_lE {s : Survey} (ok : SurveyOk s) {i j : Nat} : lks (lA s) i j = L0 (lE s) i j := by
  rw [lks_lap (lA_mem ok), lA_eA]; rfl
theorem lkM_ok {s : Survey} (ok : SurveyOk s) : lkM s = tab (mS s) (lks (lA s)) := by
  unfold lkM; rw [if_pos (surveyOk_iff.2 ok)]
  exact tab_ext fun i j _ _ => (lks_lE ok).symm
theorem take_bd {s : Survey} (ok : SurveyOk s) {k : Nat} (hk : k ≤ s.legs.length) (i j : Nat) : -54 ≤ lks ((lA s).take k) i j ∧ lks ((lA s).take k) i j ≤ 54 := by
  have n9 := ok.n9
  have := lks_bd (l := (lA s).take k) (p := s.st) (fun q hq => by
    rw [List.length_take, lA_len] at hq
    rw [gx_take (by omega)]; exact lA_ok ok q (by rw [lA_len]; omega)) i j
  rw [List.length_take, lA_len] at this
  omega
theorem l_implLinks {s : Survey} (h : s.legs.length ≤ 4611686018427387904) : p_impl_Links s = some (lkM s) := by
  unfold p_impl_Links
  rw [show (⟨s.st, s.legs⟩ : Survey) = s from rfl, l_implSurveyValid h]
  cases hv : surveyOk s with
  | false => unfold lkM; rw [hv]; rfl
  | true =>
    have ok := surveyOk_iff.1 hv
    have p1 := ok.p1; have p6 := ok.p6; have n9 := ok.n9
    simp only [Option.bind_some, Bool.not_true, cond_false]
    have e : w64 (s.st - 1) = ((mS s : Nat) : Int) := by rw [w64_in (by omega) (by omega)]; unfold mS; omega
    have hm : mS s ≤ 5 ∧ s.st = (mS s : Int) + 1 := by unfold mS; omega
    rw [e, l_squareOf (by omega), lkM_ok ok]
    simp only [Option.bind_some]
    rw [loop_to (B := p_impl_Links_L0 s) (fun k => ((k : Int), tab (mS s) (lks ((lA s).take k)))) s.legs.length (by rfl) (e := tab (mS s) (lks (lA s))) (fun k hk => by
      simp only [p_impl_Links_L0]
      have a := ok.lg k hk
      have a1 := a.f0; have a2 := a.f1; have a3 := a.t0; have a4 := a.t1; have a5 := a.ne
      rw [decide_eq_true (by omega), idx_at hk, w64_succ (by omega), l_addLink ⟨a1, by omega⟩ ⟨a3, by omega⟩ a5 ⟨by omega, by omega⟩ (by omega) (fun i j => by
        have := take_bd ok (Nat.le_of_lt hk) i j
        omega)]
      simp only [cond_true, Option.bind_some]
      congr 3
      apply tab_ext; intro i j _ _
      rw [lks_take (by rw [lA_len]; exact hk), lA_gx hk]; rfl) (by
      simp only [p_impl_Links_L0]
      rw [decide_eq_false (by omega), ← lA_len, List.take_length]; rfl)]
    rfl
theorem l_specLinksRow {s : Survey} (ok : SurveyOk s) {i n : Nat} (hn : (n : Int) = s.st - 1) (hi : i < n) :
    loop (p_spec_Links_L1 s ((i : Int) + 1) n) (0, List.replicate n 0) = some (row1 n (lks (lA s) i)) := by
  have p1 := ok.p1; have p6 := ok.p6; have n9 := ok.n9
  have := loop_stop (B := p_spec_Links_L1 s ((i : Int) + 1) n) (fun k => ((k : Int), row1 n (lks ((lA s).take k) i))) s.legs.length (e := row1 n (lks (lA s) i)) (fun k hk => by
    simp only [p_spec_Links_L1]
    have a := ok.lg k hk
    have a1 := a.f0; have a2 := a.f1; have a3 := a.t0; have a4 := a.t1; have a5 := a.ne
    have hb : ∀ j, -54 ≤ lks ((lA s).take k) i j ∧ lks ((lA s).take k) i j ≤ 54 := fun j => take_bd ok (Nat.le_of_lt hk) i j
    have ei : w64 ((i : Int) + 1 - 1) = (i : Int) := by rw [w64_in (by omega) (by omega)]; omega
    have ht : ∀ j, lks ((lA s).take (k + 1)) i j = lks ((lA s).take k) i j + lk (aw1 (gx s.legs k)) i j := fun j => by
      rw [lks_take (by rw [lA_len]; exact hk), lA_gx hk]
    have lr : ∀ j, lk (aw1 (gx s.legs k)) i j = (if (gx s.legs k).t = (i : Int) + 1 then (if j = i then 1 else 0) - (if (gx s.legs k).f = (j : Int) + 1 then 1 else 0) else if (gx s.legs k).f = (i : Int) + 1 then (if j = i then 1 else 0) - (if (gx s.legs k).t = (j : Int) + 1 then 1 else 0) else 0) := fun j => lk_row (a := aw1 (gx s.legs k)) a5
    rw [decide_eq_true (by omega), idx_at hk, w64_succ (by omega), ei]
    simp only [cond_true, beq_dec, p_spec_LegBack, Option.bind_some]
    have other : ∀ x : Int, 0 ≤ x → x < s.st → x ≠ (i : Int) + 1 → (∀ j, lk (aw1 (gx s.legs k)) i j = (if j = i then 1 else 0) - (if x = (j : Int) + 1 then 1 else 0)) →
        (idx n (i : Int) fun j54 => cond (decide (0 < x)) (idx n (w64 (x - 1)) fun j57 => some (Lp.next (((k + 1 : Nat) : Int), ((row1 n (lks ((lA s).take k) i)).set j54 (w64 ((gx (row1 n (lks ((lA s).take k) i)) j54) + 1))).set j57 (w64 ((gx ((row1 n (lks ((lA s).take k) i)).set j54 (w64 ((gx (row1 n (lks ((lA s).take k) i)) j54) + 1))) j57) - 1)))))
          (some (.next (((k + 1 : Nat) : Int), (row1 n (lks ((lA s).take k) i)).set j54 (w64 ((gx (row1 n (lks ((lA s).take k) i)) j54) + 1)))))) = (some (.next (((k + 1 : Nat) : Int), row1 n (lks ((lA s).take (k + 1)) i))) : O (Lp (Int × List Int) (List Int))) := by
      intro x hx0 hx1 hxi hlk
      have hbi := hb i
      rw [idx_at hi, row1_set hi, row1_gx hi, w64_in (x := lks ((lA s).take k) i i + 1) (by omega) (by omega)]
      by_cases hx : 0 < x
      · have ex : w64 (x - 1) = (((x - 1).toNat : Nat) : Int) := by rw [w64_in (by omega) (by omega)]; omega
        have hxn : (x - 1).toNat < n := by omega
        have hbx := hb (x - 1).toNat
        rw [decide_eq_true hx, ex, idx_at hxn, row1_set hxn, row1_gx hxn, if_neg (by omega), w64_in (by omega) (by omega)]
        simp only [cond_true]
        congr 3
        apply row1_ext; intro j hj
        rw [ht, hlk j]
        by_cases e1 : j = i <;> by_cases e2 : j = (x - 1).toNat
        · omega
        · subst e1; rw [if_neg e2, if_pos rfl, if_pos rfl, if_neg (by omega)]; omega
        · subst e2; rw [if_pos rfl, if_neg e1, if_pos (by omega)]; omega
        · rw [if_neg e2, if_neg e1, if_neg e1, if_neg (by omega)]; omega
      · rw [decide_eq_false hx]
        simp only [cond_false]
        congr 3
        apply row1_ext; intro j hj
        rw [ht, hlk j]
        by_cases e1 : j = i
        · subst e1; rw [if_pos rfl, if_pos rfl, if_neg (by omega)]; omega
        · rw [if_neg e1, if_neg e1, if_neg (by omega)]; omega
    by_cases htt : (gx s.legs k).t = (i : Int) + 1
    · rw [decide_eq_true htt]
      simp only [cond_true, Option.bind_some, decide_eq_true htt]
      exact other _ a1 a2 (by omega) (fun j => by rw [lr, if_pos htt])
    · rw [decide_eq_false htt]
      simp only [cond_false, Option.bind_some]
      by_cases hf : (gx s.legs k).f = (i : Int) + 1
      · rw [decide_eq_true hf]
        simp only [cond_true]
        exact other _ a3 a4 (by omega) (fun j => by rw [lr, if_neg htt, if_pos hf])
      · rw [decide_eq_false hf]
        simp only [cond_false]
        congr 3
        apply row1_ext; intro j hj
        rw [ht, lr, if_neg htt, if_neg hf]; omega) (by
    simp only [p_spec_Links_L1]
    rw [decide_eq_false (by omega), ← lA_len, List.take_length]; rfl)
  rw [show ((0 : Int), List.replicate n (0 : Int)) = (((0 : Nat) : Int), row1 n (lks ((lA s).take 0) i)) from by rw [row1_zero]; rfl, this]
theorem l_specLinks {s : Survey} (h : s.legs.length ≤ 4611686018427387904) : p_spec_Links s = some (lkM s) := by
  unfold p_spec_Links
  have hmm : (⟨s.st, s.legs⟩ : Survey) = s := rfl
  cases hv : surveyOk s with
  | false =>
    rw [loop_out (e := []) (by
      simp only [p_spec_Links_L0, hmm, l_specSurveyValid h, hv, Option.bind_some]
      cases decide (1 < s.st) <;> rfl)]
    unfold lkM; rw [hv]; rfl
  | true =>
    have ok := surveyOk_iff.1 hv
    have p1 := ok.p1; have p6 := ok.p6; have n9 := ok.n9
    rw [lkM_ok ok]
    have hn : ((mS s : Nat) : Int) = s.st - 1 := by unfold mS; omega
    generalize mS s = n at hn
    have hw : w64 (s.st - 1) = (n : Int) := by rw [w64_in (by omega) (by omega)]; omega
    have := loop_stop (B := p_spec_Links_L0 s) (fun k => ((tab n (lks (lA s))).take k, (k : Int) + 1)) n (e := tab n (lks (lA s))) (fun k hk => by
      simp only [p_spec_Links_L0, hmm, l_specSurveyValid h, hv, Option.bind_some]
      rw [decide_eq_true (by omega), hw, sized_at (by omega), l_specLinksRow ok hn hk, w64_in (by omega) (by omega)]
      simp only [cond_true, Option.bind_some]
      rw [need_of (by rw [List.length_take]; omega), take_gx (by rw [tab_len]; exact hk), tab_gx hk]
      congr 3) (by
      simp only [p_spec_Links_L0, hmm, l_specSurveyValid h, hv, Option.bind_some]
      rw [decide_eq_false (by omega), List.take_of_length_le (by rw [tab_len]; exact Nat.le_refl _)]; rfl)
    rw [show (([] : List (List Int)), (1 : Int)) = ((tab n (lks (lA s))).take 0, ((0 : Nat) : Int) + 1) from rfl, this]; rfl
theorem lkM_rows {s : Survey} : (lkM s).length ≤ 4611686018427387904 ∧ ∀ k, k < (lkM s).length → (gx (lkM s) k).length ≤ 4611686018427387904 := by
  unfold lkM
  cases hv : surveyOk s with
  | false => simp
  | true =>
    have ok := surveyOk_iff.1 hv
    have p6 := ok.p6
    have hm : mS s ≤ 5 := by unfold mS; omega
    simp only [if_true]
    exact ⟨by rw [tab_len]; omega, fun k hk => by rw [tab_len] at hk; rw [tab_gx hk, row1_len]; omega⟩
theorem lkM_bd {s : Survey} (ok : SurveyOk s) (i j : Nat) : -54 ≤ L0 (lE s) i j ∧ L0 (lE s) i j ≤ 54 := by
  have := take_bd ok (Nat.le_refl _) i j
  rw [← lA_len, List.take_length, lks_lE ok] at this
  exact this
theorem det_lkM {s : Survey} (ok : SurveyOk s) : det (lkM s) = D (mS s) (lE s) := by
  have p6 := ok.p6
  have hm : mS s ≤ 5 := by unfold mS; omega
  unfold lkM; rw [if_pos (surveyOk_iff.2 ok)]
  exact det_tab hm fun i _ j _ => by have := lkM_bd ok i j; omega
/-- How many trees a survey has. -/
def tm (s : Survey) : Int := if surveyOk s then D (mS s) (lE s) else -1
theorem l_implTreesMany {s : Survey} (h : s.legs.length ≤ 4611686018427387904) : p_impl_TreesMany s = some (tm s) := by
  unfold p_impl_TreesMany tm
  rw [show (⟨s.st, s.legs⟩ : Survey) = s from rfl, l_implSurveyValid h]
  cases hv : surveyOk s with
  | false => rfl
  | true =>
    simp only [Option.bind_some, Bool.not_true, cond_false, if_true]
    rw [l_implLinks h, Option.bind_some, l_implDet lkM_rows.1 lkM_rows.2, det_lkM (surveyOk_iff.1 hv)]; rfl
theorem l_specTreesMany {s : Survey} (h : s.legs.length ≤ 4611686018427387904) : p_spec_TreesMany s = some (tm s) := by
  unfold p_spec_TreesMany tm
  rw [show (⟨s.st, s.legs⟩ : Survey) = s from rfl, l_specSurveyValid h]
  cases hv : surveyOk s with
  | false => rfl
  | true =>
    simp only [Option.bind_some, Bool.not_true, cond_false, if_true]
    rw [l_specLinks h, Option.bind_some, l_specDet lkM_rows.1 lkM_rows.2, det_lkM (surveyOk_iff.1 hv)]; rfl

/-! How many trees and parts a survey has; no condition but the sizes. -/

theorem lE_w {s : Survey} : ∀ e ∈ lE s, 0 < e.w := fun e he => by
  unfold lE at he
  obtain ⟨g, _, rfl⟩ := List.mem_map.1 he
  exact (by decide : (0 : Int) < 1)
theorem lE_w1 {s : Survey} : ∀ e ∈ lE s, e.w = 1 := fun e he => by
  unfold lE at he
  obtain ⟨g, _, rfl⟩ := List.mem_map.1 he
  rfl
theorem filter_count {p : Nat → Bool} {n : Nat} : (((List.range n).filter p).length : Int) = sm n fun t => if p t then 1 else 0 := by
  induction n with
  | zero => rfl
  | succ n ih =>
    rw [List.range_succ, List.filter_append, List.length_append]
    show _ = sm n (fun t => if p t then 1 else 0) + (if p n then 1 else 0)
    rw [← ih]
    cases h : p n <;> simp [h]
theorem tm_nonneg {s : Survey} (ok : SurveyOk s) : 0 ≤ tm s := by
  unfold tm; rw [if_pos (surveyOk_iff.2 ok)]; exact D_nonneg (sv_in ok) lE_w
theorem tm_sets {s : Survey} (ok : SurveyOk s) : tm s = sm (2 ^ s.legs.length) fun t => if tset s t then 1 else 0 := by
  unfold tm
  rw [if_pos (surveyOk_iff.2 ok), D_ts (sv_in ok), ts_sets, lE_len]
  refine sm_congr fun t _ => ?_
  rw [wT_one lE_w1]; rfl
/-- There are as many trees as are listed. -/
theorem tm_len {s : Survey} (ok : SurveyOk s) : tm s = ((TA s).length : Int) := by
  rw [tm_sets ok]
  unfold TA
  rw [if_pos (surveyOk_iff.2 ok), List.length_map]
  unfold tsets
  rw [filter_count]
theorem tm_le {s : Survey} : tm s ≤ 512 := by
  cases hv : surveyOk s with
  | false => unfold tm; rw [hv]; simp
  | true =>
    have ok := surveyOk_iff.1 hv
    rw [tm_len ok]
    unfold TA
    rw [if_pos hv, List.length_map]
    have := filter_len (p := tset s) (x := 2 ^ s.legs.length)
    have := (two_pow ok.n9).2
    unfold tsets; omega
theorem l_implParts {s : Survey} (h : s.legs.length ≤ 4611686018427387904) : p_impl_Parts s = some (if surveyOk s then pl s.st.toNat (sP s) else []) := by
  unfold p_impl_Parts
  rw [show (⟨s.st, s.legs⟩ : Survey) = s from rfl, l_implSurveyValid h]
  cases hv : surveyOk s with
  | false => rfl
  | true =>
    have ok := surveyOk_iff.1 hv
    have p1 := ok.p1; have p6 := ok.p6; have n9 := ok.n9
    obtain ⟨n, hn⟩ := Int.eq_ofNat_of_zero_le (show 0 ≤ s.st by omega)
    simp only [Option.bind_some, Bool.not_true, cond_false, if_true]
    rw [hn, l_ownParts (by omega)]
    simp only [Option.bind_some]
    rw [loop_to (B := p_impl_Parts_L0 s) (fun k => ((k : Int), pl n (fj pid ((lE s).take k)))) s.legs.length (by rfl) (e := pl n (sP s)) (fun k hk => by
      simp only [p_impl_Parts_L0]
      have a := ok.lg k hk
      obtain ⟨x, hx⟩ := Int.eq_ofNat_of_zero_le a.f0
      obtain ⟨y, hy⟩ := Int.eq_ofNat_of_zero_le a.t0
      have a1 := a.f1; have a2 := a.t1
      rw [decide_eq_true (by omega), idx_at hk, hx, hy, l_joinParts (by omega) (by omega) (by omega), w64_succ (by omega)]
      simp only [cond_true, Option.bind_some]
      have hg : gx (lE s) k = eL c0 (gx s.legs k) := by unfold lE; rw [gx_of_map hk]
      rw [fj_take (by rw [lE_len]; exact hk), hg]
      have e2 : jP (fj pid ((lE s).take k)) (eL c0 (gx s.legs k)) = jab (fj pid ((lE s).take k)) x y := by rw [jP_jab]; unfold eL; simp [hx, hy]
      rw [e2]) (by
      simp only [p_impl_Parts_L0]
      rw [decide_eq_false (by omega), ← lE_len, List.take_length]; rfl)]
    simp only [Option.bind_some, Int.toNat_natCast]
theorem l_implPartsMany {s : Survey} (h : s.legs.length ≤ 4611686018427387904) : p_impl_PartsMany s = some (pm s) := by
  unfold p_impl_PartsMany pm
  rw [show (⟨s.st, s.legs⟩ : Survey) = s from rfl, l_implSurveyValid h]
  cases hv : surveyOk s with
  | false => rfl
  | true =>
    have ok := surveyOk_iff.1 hv
    have p6 := ok.p6
    simp only [Option.bind_some, Bool.not_true, cond_false, if_true]
    rw [l_implParts h, if_pos hv]
    simp only [Option.bind_some]
    rw [l_countParts (by omega)]; rfl
end Go.Proofs.YtnibfmofkamjoaaDoor
