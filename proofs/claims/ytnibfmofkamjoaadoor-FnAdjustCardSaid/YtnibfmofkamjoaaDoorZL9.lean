/- What is missed at a station, around a loop, and where a survey closes; no condition but the sizes. -/
import Derived.Test.YtnibfmofkamjoaaDoorZL8
import Derived.Test.YtnibfmofkamjoaaDoorZL5
namespace Go.Proofs.YtnibfmofkamjoaaDoor
open Go
set_option linter.unusedVariables false
set_option linter.unusedSimpArgs false

/-- At every station what is missed evens out. -/
theorem mis_even {s : Survey} {c : Leg → Int} (h : adjOk s = true) {v : Nat} (hv : v ≤ mS s) : sm s.legs.length (fun k => xv (eL c (gx s.legs k)) v * mis s (tm s) (pA s c) c k) = 0 := by
  obtain ⟨ok, h1⟩ := adj_one h
  have e := pA_kc (c := c) ok v hv
  unfold kc at e
  have : es (fun e => tm s * (e.w * xv e v * e.d) + (-1) * (e.w * xv e v * dd (pA s c) e)) (Ec s c) = 0 := by
    rw [es_add, es_mul, es_mul, e]; omega
  rw [es_ix, Ec_len] at this
  rw [← this]
  refine sm_congr fun k hk => ?_
  rw [Ec_gx hk]
  show xv (eL c (gx s.legs k)) v * mis s (tm s) (pA s c) c k = tm s * (1 * xv (eL c (gx s.legs k)) v * c (gx s.legs k)) + (-1) * (1 * xv (eL c (gx s.legs k)) v * (pA s c (gx s.legs k).t.toNat - pA s c (gx s.legs k).f.toNat))
  unfold mis
  grind
/-- By how much a leg misses its end. -/
def mcl (s : Survey) (c : Leg → Int) (k : Nat) : Int := plc s c (gx s.legs k).f.toNat + c (gx s.legs k) - plc s c (gx s.legs k).t.toNat
theorem leg_part {s : Survey} {k : Nat} (hk : k < s.legs.length) : sP s (gx s.legs k).f.toNat = sP s (gx s.legs k).t.toNat :=
  fj_eq (e := eL c0 (gx s.legs k)) (List.mem_map.2 ⟨_, gx_mem hk, rfl⟩)
theorem mcl_yc {s : Survey} {c : Leg → Int} {k : Nat} (hk : k < s.legs.length) : mcl s c k = c (gx s.legs k) + yc s c (gx s.legs k).f.toNat - yc s c (gx s.legs k).t.toNat := by
  unfold mcl plc
  rw [leg_part hk]; omega
theorem yc_legs {s : Survey} {c : Leg → Int} : jok pid ((tl s).map fun i => eL c (gx s.legs i.toNat)) = true ∧ fj pid ((tl s).map fun i => eL c (gx s.legs i.toNat)) = sP s := by
  have e : ((tl s).map fun i => eL c (gx s.legs i.toNat)).map (fun e => (e.a, e.b)) = (us s (tl s)).map (fun e => (e.a, e.b)) := by
    unfold us
    rw [List.map_map, List.map_map]; rfl
  rw [jok_ab e, fj_ab e]
  exact ⟨tl_jok, tl_parts⟩
theorem yc_in {s : Survey} {c : Leg → Int} (ok : SurveyOk s) : Inm (mS s) ((tl s).map fun i => eL c (gx s.legs i.toNat)) := fun e he => by
  obtain ⟨i, hi, rfl⟩ := List.mem_map.1 he
  obtain ⟨h0, h1⟩ := tl_mem i hi
  exact leg_in ok (by omega)
theorem yc_bd {s : Survey} {c : Leg → Int} (h : adjOk s = true) (hc : Dir c) {v : Nat} (hv : v ≤ mS s) : -495 ≤ yc s c v ∧ yc s c v ≤ 495 := by
  obtain ⟨ok, h1⟩ := adj_one h
  have p6 := ok.p6
  have h5 : mS s ≤ 5 := by unfold mS; omega
  obtain ⟨j1, j2⟩ := yc_legs (s := s) (c := c)
  have := place_bd (yc_in ok) (fun e he => by
    obtain ⟨i, hi, rfl⟩ := List.mem_map.1 he
    obtain ⟨h0, h1⟩ := tl_mem i hi
    exact hc _ _ (ok.lg i.toNat (by omega))) j1 (by rw [j2]; exact h1) v hv
  unfold yc
  omega
theorem mcl_bd {s : Survey} {c : Leg → Int} (h : adjOk s = true) (hc : Dir c) {k : Nat} (hk : k < s.legs.length) : -10000 ≤ mcl s c k ∧ mcl s c k ≤ 10000 := by
  obtain ⟨ok, h1⟩ := adj_one h
  rw [mcl_yc hk]
  have a := leg_in ok hk
  have b1 := yc_bd h hc a.1
  have b2 := yc_bd h hc a.2
  have b3 := hc _ _ (ok.lg k hk)
  omega
theorem yc_zero {s : Survey} {c : Leg → Int} : yc s c 0 = 0 := ojs_zero pid_good yc_legs.1 rfl
/-- Nothing is missed by the adjusted survey exactly if the survey closes. -/
theorem closes_iff {s : Survey} {c : Leg → Int} (h : adjOk s = true) : fsd s (tm s) (pA s c) c = 0 ↔ ∀ k, k < s.legs.length → mcl s c k = 0 := by
  obtain ⟨ok, h1⟩ := adj_one h
  have hc : Conn (mS s) (lE s) := conn_iff.1 h1
  have tp := tm_pos h
  have hD : D (mS s) (Ec s c) = tm s := by rw [Ec_D]; unfold tm; rw [if_pos (surveyOk_iff.2 ok)]
  rw [fsd_zero]
  constructor
  · intro hm k hk
    -- the adjusted places are the tree's, times the number of trees
    have hcT : Conn (mS s) ((tl s).map fun i => eL (fun g => tm s * c g) (gx s.legs i.toNat)) := by
      rw [← conn_iff, (yc_legs (c := fun g => tm s * c g)).2]; exact h1
    have same : ∀ v, v ≤ mS s → pA s c v = tm s * yc s c v := by
      refine place_uniq (y := pA s c) (z := fun v => tm s * yc s c v) hcT (fun e he => ?_) (fun e he => ?_) (by rw [yc_zero, Int.mul_zero]; rfl)
      · obtain ⟨i, hi, rfl⟩ := List.mem_map.1 he
        obtain ⟨i0, i1⟩ := tl_mem i hi
        have := hm i.toNat (by omega)
        unfold mis at this
        simp only [eL]; omega
      · obtain ⟨i, hi, rfl⟩ := List.mem_map.1 he
        have := yc_po (s := s) (c := c) i hi
        simp only [eL] at this ⊢
        rw [← Int.mul_sub, this]
    have e := hm k hk
    have a := leg_in ok hk
    unfold mis at e
    rw [same _ a.1, same _ a.2, ← Int.mul_add, ← Int.mul_sub] at e
    rw [mcl_yc hk]
    rcases Int.mul_eq_zero.1 e with e | e
    · omega
    · exact e
  · intro hm k hk
    have ex : ∀ v, v ≤ mS s → pA s c v = tm s * yc s c v := fun v hv => by
      rw [← hD]
      refine so_exact (Ec_in ok) yc_zero (fun e he => ?_) v hv
      obtain ⟨g, hg, rfl⟩ := List.mem_map.1 he
      obtain ⟨j, hj, rfl⟩ := mem_gx hg
      have := hm j hj
      rw [mcl_yc hj] at this
      simp only [eL]; omega
    have a := leg_in ok hk
    have e := hm k hk
    rw [mcl_yc hk] at e
    unfold mis
    rw [ex _ a.1, ex _ a.2, ← Int.mul_add, ← Int.mul_sub, e, Int.mul_zero]
end Go.Proofs.YtnibfmofkamjoaaDoor
