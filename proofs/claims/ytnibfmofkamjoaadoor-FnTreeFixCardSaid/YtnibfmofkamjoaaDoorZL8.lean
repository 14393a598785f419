/- What fixes miss, squared and added: the adjusted survey misses least; no condition but the sizes. -/
import Derived.Test.YtnibfmofkamjoaaDoorZL4
namespace Go.Proofs.YtnibfmofkamjoaaDoor
open Go
set_option linter.unusedVariables false
set_option linter.unusedSimpArgs false

def mis (s : Survey) (d : Int) (y : Nat → Int) (c : Leg → Int) (k : Nat) : Int := d * c (gx s.legs k) + y (gx s.legs k).f.toNat - y (gx s.legs k).t.toNat
def fsd (s : Survey) (d : Int) (y : Nat → Int) (c : Leg → Int) : Int := sm s.legs.length fun k => mis s d y c k * mis s d y c k
theorem pA_kc {s : Survey} {c : Leg → Int} (ok : SurveyOk s) : ∀ v, v ≤ mS s → kc (Ec s c) (pA s c) v = tm s * es (fun e => e.w * xv e v * e.d) (Ec s c) := fun v hv => by
  have := so_kc (Ec_in (c := c) ok) (rhs_total (Ec_in (c := c) ok)) v hv
  rw [Ec_D] at this
  unfold tm
  rw [if_pos (surveyOk_iff.2 ok)]
  exact this
theorem Ec_w {s : Survey} {c : Leg → Int} : ∀ e ∈ Ec s c, e.w = 1 := fun e he => by
  obtain ⟨g, _, rfl⟩ := List.mem_map.1 he
  rfl
theorem mis_lsq {s : Survey} {c : Leg → Int} {n : Int} {y : Nat → Int} (ok : SurveyOk s) :
    tm s * tm s * fsd s n y c = n * n * fsd s (tm s) (pA s c) c + fsd s 0 (fun v => n * pA s c v - tm s * y v) c := by
  have h := lsq (y := y) (T := tm s) (n := n) (Ec_in (c := c) ok) Ec_w (pA_kc ok)
  rw [es_ix, es_ix, es_ix, Ec_len] at h
  unfold fsd
  rw [← sm_mul, ← sm_mul]
  refine Eq.trans (sm_congr fun k hk => ?_) (h.trans (congr (congrArg HAdd.hAdd (sm_congr fun k hk => ?_)) (sm_congr fun k hk => ?_)))
  · rw [Ec_gx hk]
    show tm s * tm s * (mis s n y c k * mis s n y c k) = (tm s * (n * c (gx s.legs k) - (y (gx s.legs k).t.toNat - y (gx s.legs k).f.toNat))) * (tm s * (n * c (gx s.legs k) - (y (gx s.legs k).t.toNat - y (gx s.legs k).f.toNat)))
    have : n * c (gx s.legs k) - (y (gx s.legs k).t.toNat - y (gx s.legs k).f.toNat) = mis s n y c k := by unfold mis; omega
    rw [this]; grind
  · rw [Ec_gx hk]
    show (n * (tm s * c (gx s.legs k) - (pA s c (gx s.legs k).t.toNat - pA s c (gx s.legs k).f.toNat))) * (n * (tm s * c (gx s.legs k) - (pA s c (gx s.legs k).t.toNat - pA s c (gx s.legs k).f.toNat))) = n * n * (mis s (tm s) (pA s c) c k * mis s (tm s) (pA s c) c k)
    have : tm s * c (gx s.legs k) - (pA s c (gx s.legs k).t.toNat - pA s c (gx s.legs k).f.toNat) = mis s (tm s) (pA s c) c k := by unfold mis; omega
    rw [this]; grind
  · rw [Ec_gx hk]
    generalize (fun v => n * pA s c v - tm s * y v) = z
    show (z (gx s.legs k).t.toNat - z (gx s.legs k).f.toNat) * (z (gx s.legs k).t.toNat - z (gx s.legs k).f.toNat) = mis s 0 z c k * mis s 0 z c k
    unfold mis; grind
theorem fsd_nonneg {s : Survey} {d : Int} {y : Nat → Int} {c : Leg → Int} : 0 ≤ fsd s d y c := sm_nonneg fun k _ => sq_nonneg
theorem leg_in {s : Survey} {k : Nat} (ok : SurveyOk s) (hk : k < s.legs.length) : (gx s.legs k).f.toNat ≤ mS s ∧ (gx s.legs k).t.toNat ≤ mS s := by
  have a := ok.lg k hk
  have a0 := a.f0; have a1 := a.f1; have a2 := a.t0; have a3 := a.t1
  unfold mS; omega
theorem mis_congr {s : Survey} {d : Int} {y z : Nat → Int} {c : Leg → Int} {k : Nat} (ok : SurveyOk s) (hk : k < s.legs.length) (h : ∀ v, v ≤ mS s → y v = z v) : mis s d y c k = mis s d z c k := by
  unfold mis
  rw [h _ (leg_in ok hk).1, h _ (leg_in ok hk).2]
theorem fsd_congr {s : Survey} {d : Int} {y z : Nat → Int} {c : Leg → Int} (ok : SurveyOk s) (h : ∀ v, v ≤ mS s → y v = z v) : fsd s d y c = fsd s d z c :=
  sm_congr fun k hk => by rw [mis_congr ok hk h]
theorem adj_one {s : Survey} (h : adjOk s = true) : SurveyOk s ∧ one (mS s) (sP s) = true := by
  unfold adjOk at h
  rw [Bool.and_eq_true] at h
  have ok := surveyOk_iff.1 h.1
  exact ⟨ok, by rw [← h.2, pm_one ok]; rfl⟩
theorem adj_eq {s : Survey} (h : adjOk s = true) : adj s = (⟨tm s, wsA s⟩, true) := by unfold adj; rw [if_pos h]
theorem tm_pos {s : Survey} (h : adjOk s = true) : 1 ≤ tm s := by
  obtain ⟨ok, h1⟩ := adj_one h
  have := (D_pos (sv_in ok) lE_w).2 (conn_iff.1 h1)
  unfold tm
  rw [if_pos (surveyOk_iff.2 ok)]; omega
theorem pA_qs {s : Survey} {c : Leg → Int} (h : adjOk s = true) : ∀ v, v ≤ mS s → pA s c v = qs (mS s) (Ec s c) v := fun v hv => by
  obtain ⟨ok, h1⟩ := adj_one h
  have := (D_pos (sv_in ok) lE_w).2 (conn_iff.1 h1)
  exact so_qs (Ec_in ok) (by rw [Ec_D]; omega) v hv
theorem Ec_d {s : Survey} {c : Leg → Int} (ok : SurveyOk s) (hc : Dir c) : ∀ e ∈ Ec s c, -99 ≤ e.d ∧ e.d ≤ 99 := fun e he => by
  obtain ⟨g, hg, rfl⟩ := List.mem_map.1 he
  obtain ⟨k, hk, rfl⟩ := mem_gx hg
  exact hc _ _ (ok.lg k hk)
theorem pA_bd {s : Survey} {c : Leg → Int} (h : adjOk s = true) (hc : Dir c) : ∀ v, v ≤ mS s → -99999 ≤ pA s c v ∧ pA s c v ≤ 99999 := fun v hv => by
  obtain ⟨ok, h1⟩ := adj_one h
  have p6 := ok.p6
  rw [pA_qs h v hv]
  exact qs_bd (Ec_in ok) (by unfold mS; omega) (by rw [Ec_len]; exact ok.n9) Ec_w (Ec_d ok hc) v hv
/-- The adjusted survey is a valid fix. -/
theorem adj_fix {s : Survey} (h : adjOk s = true) : fixOk s (adj s).1 = true := by
  obtain ⟨ok, h1⟩ := adj_one h
  have p1 := ok.p1
  rw [adj_eq h]
  unfold fixOk
  have t1 := tm_pos h
  have t2 := tm_le (s := s)
  have hl : ((wsA s).length : Int) = s.st := by rw [wsA_len]; unfold mS; omega
  have hz : z1 (gx (wsA s) 0) = true := by rw [wsA_gx (by omega)]; rfl
  simp only
  rw [surveyOk_iff.2 ok, decide_eq_true t1, decide_eq_true (show tm s ≤ 999 by omega), decide_eq_true hl, hz]
  simp only [Bool.true_and, List.all_eq_true, List.mem_range]
  intro k hk
  rw [wsA_len] at hk
  rw [wsA_gx hk]
  have b1 := pA_bd h dir_e k (by omega)
  have b2 := pA_bd h dir_n k (by omega)
  have b3 := pA_bd h dir_u k (by omega)
  simp only [wayB, wi, Bool.and_eq_true, decide_eq_true_eq]
  exact ⟨b1, b2, b3⟩

def fsum (s : Survey) (f : Fix) : Int := fsd s f.den (fun v => (gx f.nums v).e) Leg.e + fsd s f.den (fun v => (gx f.nums v).n) Leg.n + fsd s f.den (fun v => (gx f.nums v).u) Leg.u
def fZ (s : Survey) (f : Fix) : Int := fsd s 0 (fun v => f.den * pA s Leg.e v - tm s * (gx f.nums v).e) Leg.e + fsd s 0 (fun v => f.den * pA s Leg.n v - tm s * (gx f.nums v).n) Leg.n + fsd s 0 (fun v => f.den * pA s Leg.u v - tm s * (gx f.nums v).u) Leg.u
theorem fZ_nonneg {s : Survey} {f : Fix} : 0 ≤ fZ s f := by
  unfold fZ
  have a := fsd_nonneg (s := s) (d := 0) (y := fun v => f.den * pA s Leg.e v - tm s * (gx f.nums v).e) (c := Leg.e)
  have b := fsd_nonneg (s := s) (d := 0) (y := fun v => f.den * pA s Leg.n v - tm s * (gx f.nums v).n) (c := Leg.n)
  have c := fsd_nonneg (s := s) (d := 0) (y := fun v => f.den * pA s Leg.u v - tm s * (gx f.nums v).u) (c := Leg.u)
  omega
theorem fsum_adj {s : Survey} (h : adjOk s = true) : fsum s (adj s).1 = fsd s (tm s) (pA s Leg.e) Leg.e + fsd s (tm s) (pA s Leg.n) Leg.n + fsd s (tm s) (pA s Leg.u) Leg.u := by
  obtain ⟨ok, h1⟩ := adj_one h
  rw [adj_eq h]
  unfold fsum
  rw [fsd_congr (y := fun v => (gx (wsA s) v).e) ok (fun v hv => by rw [wsA_gx (by omega)]), fsd_congr (y := fun v => (gx (wsA s) v).n) ok (fun v hv => by rw [wsA_gx (by omega)]), fsd_congr (y := fun v => (gx (wsA s) v).u) ok (fun v hv => by rw [wsA_gx (by omega)])]
theorem fsum_lsq {s : Survey} {f : Fix} (h : adjOk s = true) : tm s * tm s * fsum s f = f.den * f.den * fsum s (adj s).1 + fZ s f := by
  obtain ⟨ok, h1⟩ := adj_one h
  rw [fsum_adj h]
  have a := mis_lsq (c := Leg.e) (n := f.den) (y := fun v => (gx f.nums v).e) ok
  have b := mis_lsq (c := Leg.n) (n := f.den) (y := fun v => (gx f.nums v).n) ok
  have c := mis_lsq (c := Leg.u) (n := f.den) (y := fun v => (gx f.nums v).u) ok
  unfold fsum fZ
  rw [Int.mul_add, Int.mul_add, Int.mul_add, Int.mul_add, a, b, c]; omega
theorem sq_bd {x : Int} (h : -300000 ≤ x ∧ x ≤ 300000) : 0 ≤ x * x ∧ x * x ≤ 90000000000 := by
  refine ⟨sq_nonneg, ?_⟩
  by_cases c : 0 ≤ x
  · have := Int.mul_le_mul h.2 h.2 c (by omega)
    omega
  · have := Int.mul_le_mul (show -x ≤ 300000 by omega) (show -x ≤ 300000 by omega) (by omega) (by omega)
    rw [Int.neg_mul_neg] at this
    omega
theorem mis_bd {s : Survey} {f : Fix} {c : Leg → Int} {y : Way → Int} {k : Nat} (ok : FixOk s f) (hc : Dir c) (hy : ∀ k, k < f.nums.length → -99999 ≤ y (gx f.nums k) ∧ y (gx f.nums k) ≤ 99999) (hk : k < s.legs.length) :
    -300000 ≤ mis s f.den (fun v => y (gx f.nums v)) c k ∧ mis s f.den (fun v => y (gx f.nums v)) c k ≤ 300000 := by
  have p1 := ok.sv.p1
  have ln := ok.ln
  have a := leg_in ok.sv hk
  have b1 := hc _ _ (ok.sv.lg k hk)
  have b2 := mul_bd ok.d1 ok.d9 b1.1 b1.2
  have b3 := hy (gx s.legs k).f.toNat (by unfold mS at a; omega)
  have b4 := hy (gx s.legs k).t.toNat (by unfold mS at a; omega)
  unfold mis; simp only; omega
/-- The squares of one leg. -/
def sq3 (s : Survey) (f : Fix) (k : Nat) : Int := (fmw s f k).e * (fmw s f k).e + (fmw s f k).n * (fmw s f k).n + (fmw s f k).u * (fmw s f k).u
theorem sq3_parts {s : Survey} {f : Fix} {k : Nat} (ok : FixOk s f) (hk : k < s.legs.length) : (0 ≤ (fmw s f k).e * (fmw s f k).e ∧ (fmw s f k).e * (fmw s f k).e ≤ 90000000000) ∧ (0 ≤ (fmw s f k).n * (fmw s f k).n ∧ (fmw s f k).n * (fmw s f k).n ≤ 90000000000) ∧ (0 ≤ (fmw s f k).u * (fmw s f k).u ∧ (fmw s f k).u * (fmw s f k).u ≤ 90000000000) :=
  ⟨sq_bd (mis_bd ok dir_e ok.e hk), sq_bd (mis_bd ok dir_n ok.n hk), sq_bd (mis_bd ok dir_u ok.u hk)⟩
theorem sq3_bd {s : Survey} {f : Fix} (ok : FixOk s f) : ∀ {k : Nat}, k ≤ s.legs.length → 0 ≤ sm k (sq3 s f) ∧ sm k (sq3 s f) ≤ 270000000000 * (k : Int)
  | 0, _ => by simp [sm]
  | k + 1, h => by
    have h1 := sq3_bd ok (k := k) (by omega)
    obtain ⟨h2, h3, h4⟩ := sq3_parts ok (k := k) (by omega)
    show 0 ≤ sm k (sq3 s f) + sq3 s f k ∧ sm k (sq3 s f) + sq3 s f k ≤ 270000000000 * ((k + 1 : Nat) : Int)
    unfold sq3 at *
    omega
theorem sq3_sum {s : Survey} {f : Fix} : sm s.legs.length (sq3 s f) = fsum s f := by
  unfold fsum fsd
  rw [← sm_add, ← sm_add]; rfl
theorem fsum_bd {s : Survey} {f : Fix} (ok : FixOk s f) : 0 ≤ fsum s f ∧ fsum s f ≤ 2430000000000 := by
  have n9 := ok.sv.n9
  have := sq3_bd ok (Nat.le_refl _)
  rw [sq3_sum] at this
  omega
def fixSum (s : Survey) (f : Fix) : Int := if fixOk s f then fsum s f else -1
theorem fmiss_at {s : Survey} {f : Fix} {k : Nat} (hv : fixOk s f = true) (hk : k < s.legs.length) : fmiss s f (k : Int) = (fmw s f k, true) := by
  unfold fmiss inL
  rw [hv, decide_eq_true (show (0 : Int) ≤ (k : Int) by omega), decide_eq_true (show (k : Int) < (s.legs.length : Int) by omega)]; rfl
theorem l_implFixSum {s : Survey} {f : Fix} (h : s.legs.length ≤ 4611686018427387904) : p_impl_FixSum s f = some (fixSum s f) := by
  unfold p_impl_FixSum fixSum
  rw [show (⟨s.st, s.legs⟩ : Survey) = s from rfl, show (⟨f.den, f.nums⟩ : Fix) = f from rfl, l_implFixValid h]
  cases hv : fixOk s f with
  | false => rfl
  | true =>
    have ok := fixOk_to hv
    have n9 := ok.sv.n9
    simp only [Option.bind_some, Bool.not_true, cond_false, if_true]
    rw [loop_to (B := p_impl_FixSum_L0 s f) (fun k => (sm k (sq3 s f), (k : Int))) s.legs.length (by rfl) (e := fsum s f) (fun k hk => by
      simp only [p_impl_FixSum_L0]
      obtain ⟨h2, h3, h4⟩ := sq3_parts ok hk
      have h1 := sq3_bd ok (Nat.le_of_lt hk)
      rw [decide_eq_true (by omega), show (⟨s.st, s.legs⟩ : Survey) = s from rfl, show (⟨f.den, f.nums⟩ : Fix) = f from rfl, l_implFixMiss h, fmiss_at hv hk, w64_succ (by omega)]
      simp only [cond_true, Option.bind_some]
      show _ = some (Lp.next (sm k (sq3 s f) + sq3 s f k, ((k + 1 : Nat) : Int)))
      unfold sq3 at *
      rw [w64_i (x := (fmw s f k).e * (fmw s f k).e) (by omega), w64_i (x := (fmw s f k).n * (fmw s f k).n) (by omega), w64_i (x := (fmw s f k).u * (fmw s f k).u) (by omega), w64_i (x := (fmw s f k).e * (fmw s f k).e + (fmw s f k).n * (fmw s f k).n) (by omega), w64_i (x := (fmw s f k).e * (fmw s f k).e + (fmw s f k).n * (fmw s f k).n + (fmw s f k).u * (fmw s f k).u) (by omega), w64_i (by omega)]) (by
      simp only [p_impl_FixSum_L0]
      rw [decide_eq_false (by omega), sq3_sum]; rfl)]
    rfl
/-- What a leg adds to the right sides. -/
theorem rq_step {s : Survey} {c : Leg → Int} {k v : Nat} : rq s c (k + 1) v = rq s c k v + xv (eL c (gx s.legs k)) v * c (gx s.legs k) := rfl
theorem adj_row {s : Survey} {c : Leg → Int} {k x y n : Nat} {l : List Int} (ok : SurveyOk s) (hc : Dir c) (hk : k < s.legs.length) (hx : (gx s.legs k).f = (x : Int)) (hy : (gx s.legs k).t = (y : Int)) (hn : n = mS s) (hl : l = row1 n fun v => rq s c k (v + 1)) :
    (if 0 < x then (if 0 < y then l.set (y - 1) (w64 (gx l (y - 1) + c (gx s.legs k))) else l).set (x - 1) (w64 (gx (if 0 < y then l.set (y - 1) (w64 (gx l (y - 1) + c (gx s.legs k))) else l) (x - 1) - c (gx s.legs k))) else (if 0 < y then l.set (y - 1) (w64 (gx l (y - 1) + c (gx s.legs k))) else l)) = row1 n fun v => rq s c (k + 1) (v + 1) := by
  have a := leg_in ok hk
  have n9 := ok.n9
  rw [hx, hy] at a
  simp only [Int.toNat_natCast] at a
  have ne := (ok.lg k hk).ne
  rw [hx, hy] at ne
  have cb := hc _ _ (ok.lg k hk)
  have e1 : (if 0 < y then l.set (y - 1) (w64 (gx l (y - 1) + c (gx s.legs k))) else l) = row1 n fun v => rq s c k (v + 1) + (if v + 1 = y then c (gx s.legs k) else 0) := by
    by_cases h : 0 < y
    · have b := rq_bd ok hc (v := y - 1 + 1) (Nat.le_of_lt hk)
      rw [if_pos h, hl, row1_set (by omega), row1_gx (by omega), w64_i (by omega)]
      apply row1_ext; intro v hv
      by_cases e : v = y - 1
      · subst e; rw [if_pos rfl, if_pos (by omega)]
      · rw [if_neg e, if_neg (by omega)]; omega
    · rw [if_neg h, hl]
      apply row1_ext; intro v hv
      rw [if_neg (by omega)]; omega
  rw [e1]
  have xe : ∀ v, xv (eL c (gx s.legs k)) v = (if y = v then 1 else 0) - (if x = v then 1 else 0) := fun v => by
    unfold xv eL
    simp only [hx, hy, Int.toNat_natCast]
  by_cases h : 0 < x
  · have b := rq_bd ok hc (v := x - 1 + 1) (Nat.le_of_lt hk)
    rw [if_pos h, row1_set (by omega), row1_gx (by omega), if_neg (show ¬ x - 1 + 1 = y by omega), w64_i (by omega)]
    apply row1_ext; intro v hv
    rw [rq_step, xe]
    by_cases e : v = x - 1
    · subst e; rw [if_pos rfl, if_pos (show x = x - 1 + 1 by omega), if_neg (by omega)]; omega
    · rw [if_neg e, if_neg (show ¬ x = v + 1 by omega)]
      by_cases e2 : v + 1 = y
      · rw [if_pos e2, if_pos e2.symm]; omega
      · rw [if_neg e2, if_neg (fun h => e2 h.symm)]; omega
  · rw [if_neg h]
    apply row1_ext; intro v hv
    rw [rq_step, xe, if_neg (show ¬ x = v + 1 by omega)]
    by_cases e2 : v + 1 = y
    · rw [if_pos e2, if_pos e2.symm]; omega
    · rw [if_neg e2, if_neg (fun h => e2 h.symm)]; omega
theorem l_implAdjust {s : Survey} (h : s.legs.length ≤ 4611686018427387904) : p_impl_Adjust s = some (adj s) := by
  unfold p_impl_Adjust adj adjOk
  rw [show (⟨s.st, s.legs⟩ : Survey) = s from rfl, l_implSurveyValid h, l_implPartsMany h]
  cases hv : surveyOk s with
  | false => rfl
  | true =>
    have ok := surveyOk_iff.1 hv
    have p1 := ok.p1; have p6 := ok.p6; have n9 := ok.n9
    have h5 : mS s ≤ 5 := by unfold mS; omega
    simp only [Option.bind_some, Bool.not_true, cond_false, Bool.true_and, bne]
    cases hp : (pm s == 1) with
    | false => rfl
    | true =>
      have h1 : one (mS s) (sP s) = true := by rw [← hp, pm_one ok]; rfl
      simp only [Bool.not_true, cond_false, if_true]
      have hn : s.st = ((mS s + 1 : Nat) : Int) := by unfold mS; omega
      have ew : w64 (s.st - 1) = ((mS s : Nat) : Int) := by rw [w64_i (by omega)]; omega
      rw [ew, sized_at (by omega), sized_at (by omega), sized_at (by omega)]
      have hd := p_impl_Adjust_L0
      rw [loop_to (B := p_impl_Adjust_L0 s (mS s) (mS s) (mS s)) (fun k => ((k : Int), row1 (mS s) fun v => rq s Leg.e k (v + 1), row1 (mS s) fun v => rq s Leg.n k (v + 1), row1 (mS s) fun v => rq s Leg.u k (v + 1))) s.legs.length (by rw [row1_zero]; rfl)
        (e := (row1 (mS s) fun k => rhs (Ec s Leg.e) (k + 1), row1 (mS s) fun k => rhs (Ec s Leg.n) (k + 1), row1 (mS s) fun k => rhs (Ec s Leg.u) (k + 1))) (fun k hk => by
        have a := ok.lg k hk
        obtain ⟨x, hx⟩ := Int.eq_ofNat_of_zero_le a.f0
        obtain ⟨y, hy⟩ := Int.eq_ofNat_of_zero_le a.t0
        have a1 := a.f1; have a2 := a.t1
        have re := adj_row (l := row1 (mS s) fun v => rq s Leg.e k (v + 1)) ok dir_e hk hx hy rfl rfl
        have rn := adj_row (l := row1 (mS s) fun v => rq s Leg.n k (v + 1)) ok dir_n hk hx hy rfl rfl
        have ru := adj_row (l := row1 (mS s) fun v => rq s Leg.u k (v + 1)) ok dir_u hk hx hy rfl rfl
        simp only [p_impl_Adjust_L0]
        rw [decide_eq_true (by omega), idx_at hk, w64_succ (by omega), hx, hy, ← re, ← rn, ← ru]
        simp only [cond_true]
        by_cases hy0 : 0 < y
        · have ey : w64 ((y : Int) - 1) = ((y - 1 : Nat) : Int) := by rw [w64_i (by omega)]; omega
          rw [decide_eq_true (show (0 : Int) < (y : Int) by omega), ey, idx_at (by omega), idx_at (by omega), idx_at (by omega)]
          simp only [cond_true, Option.bind_some, if_pos hy0]
          by_cases hx0 : 0 < x
          · have ex : w64 ((x : Int) - 1) = ((x - 1 : Nat) : Int) := by rw [w64_i (by omega)]; omega
            rw [decide_eq_true (show (0 : Int) < (x : Int) by omega), ex, idx_at (by omega), idx_at (by omega), idx_at (by omega)]
            simp only [cond_true, if_pos hx0]
          · rw [decide_eq_false (show ¬ (0 : Int) < (x : Int) by omega)]
            simp only [cond_false, if_neg hx0]
        · rw [decide_eq_false (show ¬ (0 : Int) < (y : Int) by omega)]
          simp only [cond_false, Option.bind_some, if_neg hy0]
          by_cases hx0 : 0 < x
          · have ex : w64 ((x : Int) - 1) = ((x - 1 : Nat) : Int) := by rw [w64_i (by omega)]; omega
            rw [decide_eq_true (show (0 : Int) < (x : Int) by omega), ex, idx_at (by omega), idx_at (by omega), idx_at (by omega)]
            simp only [cond_true, if_pos hx0]
          · rw [decide_eq_false (show ¬ (0 : Int) < (x : Int) by omega)]
            simp only [cond_false, if_neg hx0]) (by
        simp only [p_impl_Adjust_L0]
        rw [decide_eq_false (by omega)]
        simp only [cond_false, rq_all])]
      simp only [Option.bind_some]
      rw [l_implLinks h]
      simp only [Option.bind_some]
      rw [l_implSolve lkM_rows.1 lkM_rows.2 (by rw [row1_len]; omega), l_implSolve lkM_rows.1 lkM_rows.2 (by rw [row1_len]; omega), l_implSolve lkM_rows.1 lkM_rows.2 (by rw [row1_len]; omega), solve_pA ok dir_e h1, solve_pA ok dir_n h1, solve_pA ok dir_u h1]
      simp only [Option.bind_some]
      rw [hn, sized_at (by omega)]
      have hz : gx (wsA s) 0 = ⟨0, 0, 0⟩ := by rw [wsA_gx (by omega)]; rfl
      have hl := wsA_len (s := s)
      rw [loop_to (B := p_impl_Adjust_L1 s (row1 (mS s) fun k => pA s Leg.e (k + 1)) (row1 (mS s) fun k => pA s Leg.n (k + 1)) (row1 (mS s) fun k => pA s Leg.u (k + 1)) (mS s + 1)) (fun k => ((k : Int), fillG (wsA s) ⟨0, 0, 0⟩ (k + 1))) (mS s) (by
        have := fillG_set (l := wsA s) (z := ⟨0, 0, 0⟩) (k := 0) (by omega)
        rw [← this, hz, ← fillG_zero, hl]
        rfl) (e := wsA s) (fun k hk => by
        simp only [p_impl_Adjust_L1, ew]
        rw [row1_len, decide_eq_true (by omega), idx_at hk, row1_len, idx_at hk, row1_len, idx_at hk, row1_gx hk, row1_gx hk, row1_gx hk, w64_succ (by omega), idx_at (by omega), ← fillG_set (l := wsA s) (k := k + 1) (by omega), wsA_gx (by omega)]; rfl) (by
        simp only [p_impl_Adjust_L1, ew]
        rw [decide_eq_false (by omega), ← hl, fillG_end]; rfl)]
      rfl
end Go.Proofs.YtnibfmofkamjoaaDoor
