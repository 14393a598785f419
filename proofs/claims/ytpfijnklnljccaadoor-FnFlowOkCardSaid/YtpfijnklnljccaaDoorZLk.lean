/- Parts; surveys valid; linked mines and their trees; no condition but the sizes. -/
import Derived.Test.YtpfijnklnljccaaDoorZLc
import Derived.Test.YtpfijnklnljccaaDoorZLa
import Derived.Test.YtpfijnklnljccaaDoorZNa
import Derived.Test.YtpfijnklnljccaaDoorZQ
import Derived.Test.YtpfijnklnljccaaDoorZLw
namespace Go.Proofs.YtpfijnklnljccaaDoor
open Go
set_option linter.unusedVariables false
set_option linter.unusedSimpArgs false

/-- The parts of the places below n, as a list. -/
def pl (n : Nat) (P : Pt) : List Int := row1 n fun v => (P v : Int)
theorem pl_len {n : Nat} {P : Pt} : (pl n P).length = n := row1_len
theorem pl_gx {n v : Nat} {P : Pt} (h : v < n) : gx (pl n P) v = (P v : Int) := row1_gx h
def jab (P : Pt) (a b : Nat) : Pt := jP P ⟨a, b, 0, 0⟩
theorem jP_jab {P : Pt} {e : Ed} : jP P e = jab P e.a e.b := rfl
theorem max_pl {n a b : Nat} {P : Pt} (ha : a < n) (hb : b < n) : max (gx (pl n P) a) (gx (pl n P) b) = ((max (P a) (P b) : Nat) : Int) := by rw [pl_gx ha, pl_gx hb]; omega
theorem min_pl {n a b : Nat} {P : Pt} (ha : a < n) (hb : b < n) : min (gx (pl n P) a) (gx (pl n P) b) = ((min (P a) (P b) : Nat) : Int) := by rw [pl_gx ha, pl_gx hb]; omega
theorem l_ownParts {n : Nat} (h : n ≤ 1000) : p_impl_ownParts (n : Int) = some (pl n pid) := by
  unfold p_impl_ownParts
  rw [sized_at (by omega)]
  rw [loop_to (B := p_impl_ownParts_L0 n) (fun k => ((k : Int), mixG (pl n pid) (List.replicate n 0) k)) n (by simp [mixG]) (e := pl n pid) (fun k hk => by
    simp only [p_impl_ownParts_L0]
    rw [decide_eq_true (by omega), idx_at hk, w64_succ (by omega), ← mixG_set (by rw [pl_len]; simp) (by simpa using hk), pl_gx hk]; rfl) (by
    simp only [p_impl_ownParts_L0]
    rw [decide_eq_false (by omega)]
    have := mixG_end (m := pl n pid) (l := List.replicate n (0 : Int)) (by rw [pl_len]; simp)
    rw [List.length_replicate] at this
    rw [this]; rfl)]
  rfl
theorem set_self {α : Type} [Inhabited α] {l : List α} {k : Nat} {v : α} (h : gx l k = v) : l.set k v = l := by
  subst h
  apply List.ext_getElem (by simp)
  intro i h1 h2
  by_cases e : k = i
  · subst e; rw [List.getElem_set_self, gx_eq h2]
  · rw [List.getElem_set_ne e]
/-- One round of a join. -/
theorem join_round {n k a b : Nat} {P : Pt} (hk : k < n) : (if gx (mixG (pl n (jab P a b)) (pl n P) k) k = ((max (P a) (P b) : Nat) : Int) then (mixG (pl n (jab P a b)) (pl n P) k).set k ((min (P a) (P b) : Nat) : Int) else mixG (pl n (jab P a b)) (pl n P) k) = mixG (pl n (jab P a b)) (pl n P) (k + 1) := by
  have hl : (pl n (jab P a b)).length = (pl n P).length := by rw [pl_len, pl_len]
  have hk' : k < (pl n P).length := by rw [pl_len]; exact hk
  rw [mixG_gx hl hk', pl_gx hk, ← mixG_set hl hk', pl_gx hk]
  unfold jab jP hiP loP
  simp only []
  split
  · rename_i h; rw [if_pos (by omega)]
  · rename_i h
    rw [if_neg (by omega)]
    exact (set_self (by rw [mixG_gx (by rw [pl_len, pl_len]) hk', pl_gx hk])).symm
theorem l_joinParts {n a b : Nat} {P : Pt} (ha : a < n) (hb : b < n) (hn : n ≤ 1000) : p_impl_joinParts (pl n P) (a : Int) (b : Int) = some (P a != P b, pl n (jab P a b)) := by
  unfold p_impl_joinParts
  rw [pl_len, idx_at ha, idx_at hb, max_pl ha hb, min_pl ha hb]
  by_cases h : P a = P b
  · have e1 : (((min (P a) (P b) : Nat) : Int) == ((max (P a) (P b) : Nat) : Int)) = true := by rw [h]; simp
    have e2 : (P a != P b) = false := by simpa using h
    have e3 : jab P a b = P := jP_same (e := ⟨a, b, 0, 0⟩) h
    rw [e1, e2, e3]; rfl
  · have e1 : (((min (P a) (P b) : Nat) : Int) == ((max (P a) (P b) : Nat) : Int)) = false := by rw [beq_eq_false_iff_ne]; omega
    have e2 : (P a != P b) = true := by simpa using h
    rw [e1, e2, cond_false]
    rw [loop_to (B := p_impl_joinParts_L0 (pl n P) a b) (fun k => ((k : Int), mixG (pl n (jab P a b)) (pl n P) k)) n (by simp [mixG]) (e := pl n (jab P a b)) (fun k hk => by
      simp only [p_impl_joinParts_L0]
      rw [pl_len, decide_eq_true (by omega), idx_at hk, max_pl ha hb, min_pl ha hb, w64_succ (by omega), ← join_round hk]
      simp only [cond_true]
      split
      · rename_i hh; rw [show (gx (mixG (pl n (jab P a b)) (pl n P) k) k == ((max (P a) (P b) : Nat) : Int)) = true by simpa using hh]; rfl
      · rename_i hh; rw [show (gx (mixG (pl n (jab P a b)) (pl n P) k) k == ((max (P a) (P b) : Nat) : Int)) = false by simpa using hh]; rfl) (by
      simp only [p_impl_joinParts_L0]
      rw [pl_len, decide_eq_false (by omega)]
      have := mixG_end (m := pl n (jab P a b)) (l := pl n P) (by rw [pl_len, pl_len])
      rw [pl_len] at this
      rw [this]; rfl)]
    rfl
/-- How many of the first places have their own number. -/
def own (x : Nat) (P : Pt) : Nat := ((List.range x).filter fun v => P v == v).length
theorem own_succ {x : Nat} {P : Pt} : own (x + 1) P = own x P + (if P x = x then 1 else 0) := by
  unfold own
  rw [List.range_succ, List.filter_append, List.length_append]
  by_cases h : P x = x
  · simp [h]
  · simp [h]
theorem own_le {x : Nat} {P : Pt} : own x P ≤ x := by
  unfold own; have := List.length_filter_le (fun v => P v == v) (List.range x); simpa using this
theorem own_cn {m : Nat} {P : Pt} : own (m + 1) P = cn m P := rfl
theorem l_countParts {n : Nat} {P : Pt} (hn : n ≤ 1000) : p_impl_countParts (pl n P) = some (own n P : Int) := by
  unfold p_impl_countParts
  rw [loop_to (B := p_impl_countParts_L0 (pl n P)) (fun k => ((own k P : Int), (k : Int))) n (by simp [own]) (e := (own n P : Int)) (fun k hk => by
    simp only [p_impl_countParts_L0]
    have := own_le (x := k) (P := P)
    rw [pl_len, decide_eq_true (by omega), idx_at hk, pl_gx hk, w64_succ (k := k) (by omega), w64_succ (k := own k P) (by omega), own_succ]
    simp only [cond_true]
    by_cases h : P k = k
    · rw [show (((P k : Nat) : Int) == (k : Int)) = true by rw [beq_iff_eq]; omega, if_pos h]; rfl
    · rw [show (((P k : Nat) : Int) == (k : Int)) = false by simp; omega, if_neg h]; rfl) (by
    simp only [p_impl_countParts_L0]
    rw [pl_len, decide_eq_false (by omega)]; rfl)]
  rfl
theorem fj_take {P : Pt} {E : List Ed} {k : Nat} (h : k < E.length) : fj P (E.take (k + 1)) = jP (fj P (E.take k)) (gx E k) := by
  unfold fj; rw [take_gx h, List.foldl_append]; rfl
theorem own_one {n : Nat} {P : Pt} (g : Good P) (hn : 1 ≤ n) : ((own n P : Int) == 1) = one (n - 1) P := by
  obtain ⟨m, rfl⟩ : ∃ m, n = m + 1 := ⟨n - 1, by omega⟩
  rw [own_cn, show m + 1 - 1 = m by omega]
  by_cases h : one m P = true
  · rw [h, (cn_one g).2 h]; rfl
  · have : cn m P ≠ 1 := fun hh => h ((cn_one g).1 hh)
    rw [show one m P = false by simpa using h, beq_eq_false_iff_ne]; omega

def legOk (p : Int) (g : Leg) : Bool := decide (0 ≤ g.f) && decide (g.f < p) && decide (0 ≤ g.t) && decide (g.t < p) && !decide (g.f = g.t) && decide (-99 ≤ g.e) && decide (g.e ≤ 99) && decide (-99 ≤ g.n) && decide (g.n ≤ 99) && decide (-99 ≤ g.u) && decide (g.u ≤ 99)
def surveyOk (s : Survey) : Bool := decide (1 ≤ s.st) && decide (s.st ≤ 6) && decide (s.legs.length ≤ 9) && (List.range s.legs.length).all fun k => legOk s.st (gx s.legs k)
structure LegOk (p : Int) (g : Leg) : Prop where
  f0 : 0 ≤ g.f
  f1 : g.f < p
  t0 : 0 ≤ g.t
  t1 : g.t < p
  ne : g.f ≠ g.t
  e0 : -99 ≤ g.e
  e1 : g.e ≤ 99
  n0 : -99 ≤ g.n
  n1 : g.n ≤ 99
  u0 : -99 ≤ g.u
  u1 : g.u ≤ 99
structure SurveyOk (s : Survey) : Prop where
  p1 : 1 ≤ s.st
  p6 : s.st ≤ 6
  n9 : s.legs.length ≤ 9
  lg : ∀ k, k < s.legs.length → LegOk s.st (gx s.legs k)
theorem legOk_iff {p : Int} {g : Leg} : legOk p g = true ↔ LegOk p g := by
  simp only [legOk, Bool.and_eq_true, decide_eq_true_eq, Bool.not_eq_true', decide_eq_false_iff_not]
  constructor
  · rintro ⟨⟨⟨⟨⟨⟨⟨⟨⟨⟨h1, h2⟩, h3⟩, h4⟩, h5⟩, h6⟩, h7⟩, h8⟩, h9⟩, h10⟩, h11⟩; exact ⟨h1, h2, h3, h4, h5, h6, h7, h8, h9, h10, h11⟩
  · rintro ⟨h1, h2, h3, h4, h5, h6, h7, h8, h9, h10, h11⟩; exact ⟨⟨⟨⟨⟨⟨⟨⟨⟨⟨h1, h2⟩, h3⟩, h4⟩, h5⟩, h6⟩, h7⟩, h8⟩, h9⟩, h10⟩, h11⟩
theorem surveyOk_iff {s : Survey} : surveyOk s = true ↔ SurveyOk s := by
  simp only [surveyOk, Bool.and_eq_true, decide_eq_true_eq, List.all_eq_true, List.mem_range, legOk_iff]
  constructor
  · rintro ⟨⟨⟨h1, h2⟩, h3⟩, h4⟩; exact ⟨h1, h2, h3, h4⟩
  · rintro ⟨h1, h2, h3, h4⟩; exact ⟨⟨⟨h1, h2⟩, h3⟩, h4⟩
theorem l_specLegValid {p : Int} {g : Leg} : p_spec_LegValid p g = some (decide (1 ≤ p) && decide (p ≤ 6) && legOk p g) := by
  unfold p_spec_LegValid
  simp only [l_l1In, Option.bind_some]
  by_cases h : 1 ≤ p ∧ p ≤ 6
  · unfold legOk
    rw [decide_eq_true h.1, decide_eq_true h.2, w64_in (by omega) (by omega), bne_dec]
    have a1 : decide (g.f ≤ p - 1) = decide (g.f < p) := by rw [decide_eq_decide]; omega
    have a2 : decide (g.t ≤ p - 1) = decide (g.t < p) := by rw [decide_eq_decide]; omega
    rw [a1, a2]
    cases decide (0 ≤ g.f)
    · rfl
    cases decide (g.f < p)
    · rfl
    cases decide (0 ≤ g.t)
    · rfl
    cases decide (g.t < p)
    · rfl
    cases decide (g.f = g.t)
    · cases decide (-99 ≤ g.e) <;> cases decide (g.e ≤ 99) <;> cases decide (-99 ≤ g.n) <;> cases decide (g.n ≤ 99) <;> cases decide (-99 ≤ g.u) <;> cases decide (g.u ≤ 99) <;> rfl
    · rfl
  · have : (decide (1 ≤ p) && decide (p ≤ 6)) = false := by rw [and_dec, decide_eq_false h]
    rw [this]; rfl
theorem l_specSurveyValid {s : Survey} (h : s.legs.length ≤ 4611686018427387904) : p_spec_SurveyValid s = some (surveyOk s) := by
  unfold p_spec_SurveyValid
  rw [loop_all (fun k => decide (1 ≤ s.st) && decide (s.st ≤ 6) && legOk s.st (gx s.legs k)) s.legs.length false (fun k hk => by
    simp only [p_spec_SurveyValid_L0]
    rw [decide_eq_true (by omega), idx_at hk, w64_succ (by omega), l_specLegValid]
    cases (decide (1 ≤ s.st) && decide (s.st ≤ 6) && legOk s.st (gx s.legs k)) <;> rfl) (by simp only [p_spec_SurveyValid_L0]; rw [decide_eq_false (by omega)]; rfl)]
  have e3 : decide (((s.legs.length : Nat) : Int) ≤ 9) = decide (s.legs.length ≤ 9) := by rw [decide_eq_decide]; omega
  simp only [l_l1In, e3]
  unfold surveyOk
  cases decide (1 ≤ s.st) <;> cases decide (s.st ≤ 6) <;> cases decide (s.legs.length ≤ 9) <;> simp only [Bool.true_and, Bool.false_and]
  all_goals first | (cases (List.range s.legs.length).all (fun k => legOk s.st (gx s.legs k)) <;> rfl) | (cases (List.range s.legs.length).all (fun k => false) <;> rfl)

/-- A leg as one of a graph, with a number. -/
def eL (c : Leg → Int) (g : Leg) : Ed := ⟨g.f.toNat, g.t.toNat, c g, 1⟩
def c0 : Leg → Int := fun _ => 0
/-- The edges of some legs, told by their indices. -/
def us (s : Survey) (use : List Int) : List Ed := use.map fun i => eL c0 (gx s.legs i.toNat)
theorem l_l1Parts {s : Survey} {n : Nat} {use : List Int} (hs : s.st = (n : Int)) (hn : n ≤ 1000) (hl : s.legs.length ≤ 1000) (hu : use.length ≤ 1000) (hi : ∀ k, k < use.length → 0 ≤ gx use k ∧ gx use k < s.legs.length)
    (hg : ∀ k, k < s.legs.length → 0 ≤ (gx s.legs k).f ∧ (gx s.legs k).f < s.st ∧ 0 ≤ (gx s.legs k).t ∧ (gx s.legs k).t < s.st) : p_spec_l1Parts s use = some (pl n (fj pid (us s use))) := by
  unfold p_spec_l1Parts
  rw [loop_to (B := p_spec_l1Parts_L0 s) (fun k => ((pl n pid).take k, (k : Int))) n (by simp) (e := pl n pid) (fun k hk => by
    simp only [p_spec_l1Parts_L0]
    rw [decide_eq_true (by omega), need_of (by simp [pl_len]; omega), w64_succ (by omega), take_gx (by rw [pl_len]; exact hk), pl_gx hk]; rfl) (by
    simp only [p_spec_l1Parts_L0]
    rw [decide_eq_false (by omega), List.take_of_length_le (by rw [pl_len]; omega)]; rfl)]
  simp only [Option.bind_some]
  have hus : (us s use).length = use.length := by simp [us]
  rw [loop_to (B := p_spec_l1Parts_L1 s use (pl n pid)) (fun k => ((k : Int), pl n (fj pid ((us s use).take k)))) use.length (by rfl) (e := pl n (fj pid (us s use))) (fun k hk => by
    simp only [p_spec_l1Parts_L1]
    obtain ⟨h1, h2⟩ := hi k hk
    obtain ⟨j, hj⟩ := Int.eq_ofNat_of_zero_le h1
    have hjl : j < s.legs.length := by omega
    obtain ⟨g1, g2, g3, g4⟩ := hg j hjl
    obtain ⟨a, ha⟩ := Int.eq_ofNat_of_zero_le g1
    obtain ⟨b, hb⟩ := Int.eq_ofNat_of_zero_le g3
    have han : a < n := by omega
    have hbn : b < n := by omega
    rw [decide_eq_true (by omega), idx_at hk, w64_succ (by omega), hj, idx_at hjl, pl_len, ha, hb, idx_at han, idx_at hbn, fj_take (by rw [hus]; exact hk)]
    have ge : gx (us s use) k = ⟨a, b, 0, 1⟩ := by
      unfold us; rw [gx_of_map hk, hj]; simp [eL, c0, ha, hb]
    rw [ge, jP_jab]
    simp only [cond_true]
    generalize fj pid ((us s use).take k) = P
    rw [loop_to (B := p_spec_l1Parts_L2 (pl n pid) (pl n P) a b) (fun k => ((k : Int), mixG (pl n (jab P a b)) (pl n P) k)) n (by simp [mixG]) (e := pl n (jab P a b)) (fun k hk => by
      simp only [p_spec_l1Parts_L2]
      rw [pl_len, decide_eq_true (by omega), idx_at hk, max_pl han hbn, min_pl han hbn, w64_succ (by omega), ← join_round hk]
      simp only [cond_true]
      split
      · rename_i hh; rw [show (gx (mixG (pl n (jab P a b)) (pl n P) k) k == ((max (P a) (P b) : Nat) : Int)) = true by simpa using hh]; rfl
      · rename_i hh; rw [show (gx (mixG (pl n (jab P a b)) (pl n P) k) k == ((max (P a) (P b) : Nat) : Int)) = false by simpa using hh]; rfl) (by
      simp only [p_spec_l1Parts_L2]
      rw [pl_len, decide_eq_false (by omega)]
      have := mixG_end (m := pl n (jab P a b)) (l := pl n P) (by rw [pl_len, pl_len])
      rw [pl_len] at this
      rw [this]; rfl)]
    rfl) (by
    simp only [p_spec_l1Parts_L1]
    rw [decide_eq_false (by omega), ← hus, List.take_length]; rfl)]
  rfl
/-- The parts of a survey. -/
def sP (s : Survey) : Pt := fj pid (s.legs.map (eL c0))
theorem ok_ends {s : Survey} (ok : SurveyOk s) : ∀ k, k < s.legs.length → 0 ≤ (gx s.legs k).f ∧ (gx s.legs k).f < s.st ∧ 0 ≤ (gx s.legs k).t ∧ (gx s.legs k).t < s.st := fun k hk => by
  have a := ok.lg k hk
  exact ⟨a.f0, a.f1, a.t0, a.t1⟩
/-- An airway as a leg of a graph. -/
def eA (a : Airway) : Ed := ⟨a.f.toNat, a.t.toNat, 0, a.w⟩
def eM (m : Mine) : List Ed := m.aw.map eA
def mm (m : Mine) : Nat := m.p.toNat - 1
/-- All places of a valid mine are linked. -/
def lnk (m : Mine) : Bool := mineOk m && one (mm m) (fj pid (eM m))
theorem eM_len {m : Mine} : (eM m).length = m.aw.length := by simp [eM]
theorem eM_gx {m : Mine} {k : Nat} (h : k < m.aw.length) : gx (eM m) k = eA (gx m.aw k) := gx_of_map h
theorem mine_in {m : Mine} (ok : MineOk m) : Inm (mm m) (eM m) := fun e he => by
  obtain ⟨k, hk, rfl⟩ := mem_gx he
  rw [eM_len] at hk
  have a := ok.aw k hk
  have := a.f0; have := a.f1; have := a.t0; have := a.t1; have := ok.p1
  rw [eM_gx hk]; unfold eA mm; simp only; omega
theorem mine_w {m : Mine} (ok : MineOk m) : ∀ e ∈ eM m, 0 < e.w := fun e he => by
  obtain ⟨k, hk, rfl⟩ := mem_gx he
  rw [eM_len] at hk
  have := (ok.aw k hk).w1
  rw [eM_gx hk]; unfold eA; simp only; omega
theorem mine_w6 {m : Mine} (ok : MineOk m) : ∀ e ∈ eM m, 0 ≤ e.w ∧ e.w ≤ 6 := fun e he => by
  obtain ⟨k, hk, rfl⟩ := mem_gx he
  rw [eM_len] at hk
  have := (ok.aw k hk).w1
  have := (ok.aw k hk).w6
  rw [eM_gx hk]; unfold eA; simp only; omega
theorem lnk_conn {m : Mine} : lnk m = true ↔ mineOk m = true ∧ Conn (mm m) (eM m) := by
  unfold lnk; rw [Bool.and_eq_true, conn_iff]
theorem l_implAirLinked {m : Mine} (h : m.aw.length ≤ 4611686018427387904) : p_impl_AirLinked m = some (lnk m) := by
  unfold p_impl_AirLinked lnk
  rw [show (⟨m.p, m.aw⟩ : Mine) = m from rfl, l_implMineValid h]
  cases hv : mineOk m with
  | false => rfl
  | true =>
    have ok := mineOk_iff.1 hv
    have p1 := ok.p1; have p5 := ok.p5; have n7 := ok.n7
    simp only [Option.bind_some, Bool.not_true, cond_false, Bool.true_and]
    generalize hn : m.p.toNat = n
    have hpn : m.p = (n : Int) := by omega
    rw [hpn, l_ownParts (by omega)]
    simp only [Option.bind_some]
    rw [loop_to (B := p_impl_AirLinked_L0 m) (fun k => ((k : Int), pl n (fj pid ((eM m).take k)))) m.aw.length (by rfl) (e := pl n (fj pid (eM m))) (fun k hk => by
      simp only [p_impl_AirLinked_L0]
      have a := ok.aw k hk
      obtain ⟨x, hx⟩ := Int.eq_ofNat_of_zero_le a.f0
      obtain ⟨y, hy⟩ := Int.eq_ofNat_of_zero_le a.t0
      have a1 := a.f1; have a2 := a.t1
      rw [decide_eq_true (by omega), idx_at hk, w64_succ (by omega), hx, hy, l_joinParts (by omega) (by omega) (by omega), fj_take (by rw [eM_len]; exact hk), eM_gx hk, jP_jab]
      simp only [cond_true, Option.bind_some, eA, hx, hy, Int.toNat_natCast]) (by
      simp only [p_impl_AirLinked_L0]
      rw [decide_eq_false (by omega), ← eM_len, List.take_length]; rfl)]
    simp only [Option.bind_some]
    rw [l_countParts (by omega), Option.bind_some, own_one (fj_good pid_good) (by omega)]
    have : mm m = n - 1 := by unfold mm; omega
    rw [this]
/-- The survey of a mine. -/
def sM (m : Mine) : Survey := ⟨m.p, m.aw.map fun a => ⟨a.f, a.t, 0, 0, 0⟩⟩
theorem sM_len {m : Mine} : (sM m).legs.length = m.aw.length := by simp [sM]
theorem sM_gx {m : Mine} {k : Nat} (h : k < m.aw.length) : gx (sM m).legs k = ⟨(gx m.aw k).f, (gx m.aw k).t, 0, 0, 0⟩ := gx_of_map (f := fun a : Airway => (⟨a.f, a.t, 0, 0, 0⟩ : Leg)) h
theorem l_l3Survey {m : Mine} (h : m.aw.length ≤ 1000000) : p_spec_l3Survey m = some (sM m) := by
  unfold p_spec_l3Survey
  rw [loop_to (B := p_spec_l3Survey_L0 m) (fun k => ((k : Int), (sM m).legs.take k)) m.aw.length (by rfl) (e := (sM m).legs) (fun k hk => by
    simp only [p_spec_l3Survey_L0]
    rw [decide_eq_true (by omega), idx_at hk, need_of (by simp [sM_len]; omega), w64_succ (by omega), take_gx (by rw [sM_len]; exact hk), sM_gx hk]; rfl) (by
    simp only [p_spec_l3Survey_L0]
    rw [decide_eq_false (by omega), List.take_of_length_le (by rw [sM_len]; omega)]; rfl)]
  rfl
theorem lk_lap {p : Int} {a : Airway} (h : AwOk p a) {i j : Nat} : lk a i j = (eA a).w * xv (eA a) (i + 1) * xv (eA a) (j + 1) := by
  have f0 := h.f0; have t0 := h.t0; have ne := h.ne
  unfold lk eA xv
  simp only
  have e1 : ∀ x : Int, 0 ≤ x → ∀ k : Nat, (x = (k : Int) + 1 ↔ x.toNat = k + 1) := fun x hx k => by omega
  simp only [e1 _ f0, e1 _ t0]
  have hne : a.f.toNat ≠ a.t.toNat := by omega
  by_cases hij : i = j
  · subst hij
    simp only [if_true]
    by_cases c1 : a.f.toNat = i + 1 <;> by_cases c2 : a.t.toNat = i + 1 <;> simp [c1, c2] <;> omega
  · simp only [hij, if_false]
    by_cases c1 : a.f.toNat = i + 1 <;> by_cases c2 : a.t.toNat = i + 1 <;> by_cases c3 : a.f.toNat = j + 1 <;> by_cases c4 : a.t.toNat = j + 1 <;> simp [c1, c2, c3, c4, hij, Ne.symm hij] <;> omega
theorem lks_lap : ∀ {l : List Airway} {p : Int} {i j : Nat}, (∀ a ∈ l, AwOk p a) → lks l i j = lap (l.map eA) (i + 1) (j + 1)
  | [], _, _, _, _ => rfl
  | a :: l, p, i, j, h => by
    have ih := lks_lap (l := l) (p := p) (i := i) (j := j) (fun x hx => h x (List.mem_cons_of_mem _ hx))
    show lk a i j + lks l i j = _
    rw [ih, lk_lap (h a List.mem_cons_self)]; rfl
theorem ok_mem {m : Mine} (ok : MineOk m) : ∀ a ∈ m.aw, AwOk m.p a := fun a ha => by
  obtain ⟨k, hk, rfl⟩ := mem_gx ha
  exact ok.aw k hk
theorem airM_ok {m : Mine} (ok : MineOk m) : airM m = tab (mm m) (L0 (eM m)) := by
  unfold airM
  rw [if_pos (mineOk_iff.2 ok)]
  have : (m.p - 1).toNat = mm m := by unfold mm; omega
  rw [this]
  exact tab_ext fun i j hi hj => lks_lap (ok_mem ok)
theorem L0_bd {m : Mine} (ok : MineOk m) (i j : Nat) : -42 ≤ L0 (eM m) i j ∧ L0 (eM m) i j ≤ 42 := by
  have h := lks_bd (l := m.aw) (p := m.p) ok.aw i j
  rw [lks_lap (ok_mem ok)] at h
  have := ok.n7
  unfold L0 eM; omega
/-- The trees of a mine, each by the product of its widths. -/
def tr (m : Mine) : Int := if mineOk m then D (mm m) (eM m) else -1
theorem det_airM {m : Mine} (ok : MineOk m) : det (airM m) = D (mm m) (eM m) := by
  have p5 := ok.p5
  rw [airM_ok ok]
  exact det_tab (by unfold mm; omega) (fun i hi j hj => by have := L0_bd ok i j; omega)
theorem airM_rows {m : Mine} : (airM m).length ≤ 4611686018427387904 ∧ ∀ k, k < (airM m).length → (gx (airM m) k).length ≤ 4611686018427387904 := by
  unfold airM
  split
  · rename_i h
    have ok := mineOk_iff.1 h
    have p5 := ok.p5
    refine ⟨by rw [tab_len]; omega, fun k hk => ?_⟩
    rw [tab_len] at hk
    rw [tab_gx hk, row1_len]; omega
  · exact ⟨by simp, fun k hk => by simp at hk⟩
theorem l_implAirTrees {m : Mine} (h : m.aw.length ≤ 4611686018427387904) : p_impl_AirTrees m = some (tr m) := by
  unfold p_impl_AirTrees tr
  rw [show (⟨m.p, m.aw⟩ : Mine) = m from rfl, l_implMineValid h]
  cases hv : mineOk m with
  | false => rfl
  | true =>
    simp only [Option.bind_some, Bool.not_true, cond_false, if_true]
    rw [l_implAirMatrix h, Option.bind_some, l_implDet airM_rows.1 airM_rows.2, det_airM (mineOk_iff.1 hv)]; rfl
theorem tr_le {m : Mine} : tr m ≤ 823543 := by
  unfold tr
  split
  · rename_i h
    have ok := mineOk_iff.1 h
    have h1 := D_le (mine_in ok) (fun e he => (mine_w6 ok e he).1)
    have h2 := pw_le (E := eM m) (n := 7) (c := 6) (by rw [eM_len]; exact ok.n7) (mine_w6 ok) (by omega)
    have : ((1 : Int) + 6) ^ 7 = 823543 := by decide
    omega
  · omega
end Go.Proofs.YtpfijnklnljccaaDoor
