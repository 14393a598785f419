/- Parts; surveys valid; linked mines and their trees; no condition but the sizes. -/
import Derived.Test.YtpfijnklnljccaaDoorZLc
import Derived.Test.YtpfijnklnljccaaDoorZLa
import Derived.Test.YtpfijnklnljccaaDoorZNa
import Derived.Test.YtpfijnklnljccaaDoorZQ
import Derived.Test.YtpfijnklnljccaaDoorZLw
namespace Go.Proofs.YtpfijnklnljccaaDoor
open Go
set_option linter.unusedVariables false
set_option linter.unusedSimpArgs false

/-- The parts of the places below n, as a list. -/
def pl (n : Nat) (P : Pt) : List Int := row1 n fun v => (P v : Int)
theorem pl_len {n : Nat} {P : Pt} : (pl n P).length = n := row1_len
theorem pl_gx {n v : Nat} {P : Pt} (h : v < n) : gx (pl n P) v = (P v : Int) := row1_gx h
def jab (P : Pt) (a b : Nat) : Pt := jP P ⟨a, b, 0, 0⟩
theorem jP_jab {P : Pt} {e : Ed} : jP P e = jab P e.a e.b := rfl
theorem max_pl {n a b : Nat} {P : Pt} (ha : a < n) (hb : b < n) : max (gx (pl n P) a) (gx (pl n P) b) = ((max (P a) (P b) : Nat) : Int) := by rw [pl_gx ha, pl_gx hb]; omega
theorem min_pl {n a b : Nat} {P : Pt} (ha : a < n) (hb : b < n) : min (gx (pl n P) a) (gx (pl n P) b) = ((min (P a) (P b) : Nat) : Int) := by rw [pl_gx ha, pl_gx hb]; omega
theorem set_self {α : Type} [Inhabited α] {l : List α} {k : Nat} {v : α} (h : gx l k = v) : l.set k v = l := by
  subst h
  apply List.ext_getElem (by simp)
  intro i h1 h2
  by_cases e : k = i
  · subst e; rw [List.getElem_set_self, gx_eq h2]
  · rw [List.getElem_set_ne e]
/-- One round of a join. -/
theorem join_round {n k a b : Nat} {P : Pt} (hk : k < n) : (if gx (mixG (pl n (jab P a b)) (pl n P) k) k = ((max (P a) (P b) : Nat) : Int) then (mixG (pl n (jab P a b)) (pl n P) k).set k ((min (P a) (P b) : Nat) : Int) else mixG (pl n (jab P a b)) (pl n P) k) = mixG (pl n (jab P a b)) (pl n P) (k + 1) := by
  have hl : (pl n (jab P a b)).length = (pl n P).length := by rw [pl_len, pl_len]
  have hk' : k < (pl n P).length := by rw [pl_len]; exact hk
  rw [mixG_gx hl hk', pl_gx hk, ← mixG_set hl hk', pl_gx hk]
  unfold jab jP hiP loP
  simp only []
  split
  · rename_i h; rw [if_pos (by omega)]
  · rename_i h
    rw [if_neg (by omega)]
    exact (set_self (by rw [mixG_gx (by rw [pl_len, pl_len]) hk', pl_gx hk])).symm
/-- How many of the first places have their own number. -/
def own (x : Nat) (P : Pt) : Nat := ((List.range x).filter fun v => P v == v).length
theorem fj_take {P : Pt} {E : List Ed} {k : Nat} (h : k < E.length) : fj P (E.take (k + 1)) = jP (fj P (E.take k)) (gx E k) := by
  unfold fj; rw [take_gx h, List.foldl_append]; rfl
def legOk (p : Int) (g : Leg) : Bool := decide (0 ≤ g.f) && decide (g.f < p) && decide (0 ≤ g.t) && decide (g.t < p) && !decide (g.f = g.t) && decide (-99 ≤ g.e) && decide (g.e ≤ 99) && decide (-99 ≤ g.n) && decide (g.n ≤ 99) && decide (-99 ≤ g.u) && decide (g.u ≤ 99)
def surveyOk (s : Survey) : Bool := decide (1 ≤ s.st) && decide (s.st ≤ 6) && decide (s.legs.length ≤ 9) && (List.range s.legs.length).all fun k => legOk s.st (gx s.legs k)
structure LegOk (p : Int) (g : Leg) : Prop where
  f0 : 0 ≤ g.f
  f1 : g.f < p
  t0 : 0 ≤ g.t
  t1 : g.t < p
  ne : g.f ≠ g.t
  e0 : -99 ≤ g.e
  e1 : g.e ≤ 99
  n0 : -99 ≤ g.n
  n1 : g.n ≤ 99
  u0 : -99 ≤ g.u
  u1 : g.u ≤ 99
structure SurveyOk (s : Survey) : Prop where
  p1 : 1 ≤ s.st
  p6 : s.st ≤ 6
  n9 : s.legs.length ≤ 9
  lg : ∀ k, k < s.legs.length → LegOk s.st (gx s.legs k)
theorem legOk_iff {p : Int} {g : Leg} : legOk p g = true ↔ LegOk p g := by
  simp only [legOk, Bool.and_eq_true, decide_eq_true_eq, Bool.not_eq_true', decide_eq_false_iff_not]
  constructor
  · rintro ⟨⟨⟨⟨⟨⟨⟨⟨⟨⟨h1, h2⟩, h3⟩, h4⟩, h5⟩, h6⟩, h7⟩, h8⟩, h9⟩, h10⟩, h11⟩; exact ⟨h1, h2, h3, h4, h5, h6, h7, h8, h9, h10, h11⟩
  · rintro ⟨h1, h2, h3, h4, h5, h6, h7, h8, h9, h10, h11⟩; exact ⟨⟨⟨⟨⟨⟨⟨⟨⟨⟨h1, h2⟩, h3⟩, h4⟩, h5⟩, h6⟩, h7⟩, h8⟩, h9⟩, h10⟩, h11⟩
theorem surveyOk_iff {s : Survey} : surveyOk s = true ↔ SurveyOk s := by
  simp only [surveyOk, Bool.and_eq_true, decide_eq_true_eq, List.all_eq_true, List.mem_range, legOk_iff]
  constructor
  · rintro ⟨⟨⟨h1, h2⟩, h3⟩, h4⟩; exact ⟨h1, h2, h3, h4⟩
  · rintro ⟨h1, h2, h3, h4⟩; exact ⟨⟨⟨h1, h2⟩, h3⟩, h4⟩
theorem l_specLegValid {p : Int} {g : Leg} : p_spec_LegValid p g = some (decide (1 ≤ p) && decide (p ≤ 6) && legOk p g) := by
  unfold p_spec_LegValid
  simp only [l_l1In, Option.bind_some]
  by_cases h : 1 ≤ p ∧ p ≤ 6
  · unfold legOk
    rw [decide_eq_true h.1, decide_eq_true h.2, w64_in (by omega) (by omega), bne_dec]
    have a1 : decide (g.f ≤ p - 1) = decide (g.f < p) := by rw [decide_eq_decide]; omega
    have a2 : decide (g.t ≤ p - 1) = decide (g.t < p) := by rw [decide_eq_decide]; omega
    rw [a1, a2]
    cases decide (0 ≤ g.f)
    · rfl
    cases decide (g.f < p)
    · rfl
    cases decide (0 ≤ g.t)
    · rfl
    cases decide (g.t < p)
    · rfl
    cases decide (g.f = g.t)
    · cases decide (-99 ≤ g.e) <;> cases decide (g.e ≤ 99) <;> cases decide (-99 ≤ g.n) <;> cases decide (g.n ≤ 99) <;> cases decide (-99 ≤ g.u) <;> cases decide (g.u ≤ 99) <;> rfl
    · rfl
  · have : (decide (1 ≤ p) && decide (p ≤ 6)) = false := by rw [and_dec, decide_eq_false h]
    rw [this]; rfl
theorem l_specSurveyValid {s : Survey} (h : s.legs.length ≤ 4611686018427387904) : p_spec_SurveyValid s = some (surveyOk s) := by
  unfold p_spec_SurveyValid
  rw [loop_all (fun k => decide (1 ≤ s.st) && decide (s.st ≤ 6) && legOk s.st (gx s.legs k)) s.legs.length false (fun k hk => by
    simp only [p_spec_SurveyValid_L0]
    rw [decide_eq_true (by omega), idx_at hk, w64_succ (by omega), l_specLegValid]
    cases (decide (1 ≤ s.st) && decide (s.st ≤ 6) && legOk s.st (gx s.legs k)) <;> rfl) (by simp only [p_spec_SurveyValid_L0]; rw [decide_eq_false (by omega)]; rfl)]
  have e3 : decide (((s.legs.length : Nat) : Int) ≤ 9) = decide (s.legs.length ≤ 9) := by rw [decide_eq_decide]; omega
  simp only [l_l1In, e3]
  unfold surveyOk
  cases decide (1 ≤ s.st) <;> cases decide (s.st ≤ 6) <;> cases decide (s.legs.length ≤ 9) <;> simp only [Bool.true_and, Bool.false_and]
  all_goals first | (cases (List.range s.legs.length).all (fun k => legOk s.st (gx s.legs k)) <;> rfl) | (cases (List.range s.legs.length).all (fun k => false) <;> rfl)

/-- A leg as one of a graph, with a number. -/
def eL (c : Leg → Int) (g : Leg) : Ed := ⟨g.f.toNat, g.t.toNat, c g, 1⟩
def c0 : Leg → Int := fun _ => 0
/-- The edges of some legs, told by their indices. -/
def us (s : Survey) (use : List Int) : List Ed := use.map fun i => eL c0 (gx s.legs i.toNat)
theorem l_l1Parts {s : Survey} {n : Nat} {use : List Int} (hs : s.st = (n : Int)) (hn : n ≤ 1000) (hl : s.legs.length ≤ 1000) (hu : use.length ≤ 1000) (hi : ∀ k, k < use.length → 0 ≤ gx use k ∧ gx use k < s.legs.length)
    (hg : ∀ k, k < s.legs.length → 0 ≤ (gx s.legs k).f ∧ (gx s.legs k).f < s.st ∧ 0 ≤ (gx s.legs k).t ∧ (gx s.legs k).t < s.st) : p_spec_l1Parts s use = some (pl n (fj pid (us s use))) := by
  unfold p_spec_l1Parts
  rw [loop_to (B := p_spec_l1Parts_L0 s) (fun k => ((pl n pid).take k, (k : Int))) n (by simp) (e := pl n pid) (fun k hk => by
    simp only [p_spec_l1Parts_L0]
    rw [decide_eq_true (by omega), need_of (by simp [pl_len]; omega), w64_succ (by omega), take_gx (by rw [pl_len]; exact hk), pl_gx hk]; rfl) (by
    simp only [p_spec_l1Parts_L0]
    rw [decide_eq_false (by omega), List.take_of_length_le (by rw [pl_len]; omega)]; rfl)]
  simp only [Option.bind_some]
  have hus : (us s use).length = use.length := by simp [us]
  rw [loop_to (B := p_spec_l1Parts_L1 s use (pl n pid)) (fun k => ((k : Int), pl n (fj pid ((us s use).take k)))) use.length (by rfl) (e := pl n (fj pid (us s use))) (fun k hk => by
    simp only [p_spec_l1Parts_L1]
    obtain ⟨h1, h2⟩ := hi k hk
    obtain ⟨j, hj⟩ := Int.eq_ofNat_of_zero_le h1
    have hjl : j < s.legs.length := by omega
    obtain ⟨g1, g2, g3, g4⟩ := hg j hjl
    obtain ⟨a, ha⟩ := Int.eq_ofNat_of_zero_le g1
    obtain ⟨b, hb⟩ := Int.eq_ofNat_of_zero_le g3
    have han : a < n := by omega
    have hbn : b < n := by omega
    rw [decide_eq_true (by omega), idx_at hk, w64_succ (by omega), hj, idx_at hjl, pl_len, ha, hb, idx_at han, idx_at hbn, fj_take (by rw [hus]; exact hk)]
    have ge : gx (us s use) k = ⟨a, b, 0, 1⟩ := by
      unfold us; rw [gx_of_map hk, hj]; simp [eL, c0, ha, hb]
    rw [ge, jP_jab]
    simp only [cond_true]
    generalize fj pid ((us s use).take k) = P
    rw [loop_to (B := p_spec_l1Parts_L2 (pl n pid) (pl n P) a b) (fun k => ((k : Int), mixG (pl n (jab P a b)) (pl n P) k)) n (by simp [mixG]) (e := pl n (jab P a b)) (fun k hk => by
      simp only [p_spec_l1Parts_L2]
      rw [pl_len, decide_eq_true (by omega), idx_at hk, max_pl han hbn, min_pl han hbn, w64_succ (by omega), ← join_round hk]
      simp only [cond_true]
      split
      · rename_i hh; rw [show (gx (mixG (pl n (jab P a b)) (pl n P) k) k == ((max (P a) (P b) : Nat) : Int)) = true by simpa using hh]; rfl
      · rename_i hh; rw [show (gx (mixG (pl n (jab P a b)) (pl n P) k) k == ((max (P a) (P b) : Nat) : Int)) = false by simpa using hh]; rfl) (by
      simp only [p_spec_l1Parts_L2]
      rw [pl_len, decide_eq_false (by omega)]
      have := mixG_end (m := pl n (jab P a b)) (l := pl n P) (by rw [pl_len, pl_len])
      rw [pl_len] at this
      rw [this]; rfl)]
    rfl) (by
    simp only [p_spec_l1Parts_L1]
    rw [decide_eq_false (by omega), ← hus, List.take_length]; rfl)]
  rfl
/-- The parts of a survey. -/
def sP (s : Survey) : Pt := fj pid (s.legs.map (eL c0))
theorem ok_ends {s : Survey} (ok : SurveyOk s) : ∀ k, k < s.legs.length → 0 ≤ (gx s.legs k).f ∧ (gx s.legs k).f < s.st ∧ 0 ≤ (gx s.legs k).t ∧ (gx s.legs k).t < s.st := fun k hk => by
  have a := ok.lg k hk
  exact ⟨a.f0, a.f1, a.t0, a.t1⟩
/-- An airway as a leg of a graph. -/
def eA (a : Airway) : Ed := ⟨a.f.toNat, a.t.toNat, 0, a.w⟩
def eM (m : Mine) : List Ed := m.aw.map eA
def mm (m : Mine) : Nat := m.p.toNat - 1
/-- The survey of a mine. -/
def sM (m : Mine) : Survey := ⟨m.p, m.aw.map fun a => ⟨a.f, a.t, 0, 0, 0⟩⟩
theorem sM_len {m : Mine} : (sM m).legs.length = m.aw.length := by simp [sM]
theorem sM_gx {m : Mine} {k : Nat} (h : k < m.aw.length) : gx (sM m).legs k = ⟨(gx m.aw k).f, (gx m.aw k).t, 0, 0, 0⟩ := gx_of_map (f := fun a : Airway => (⟨a.f, a.t, 0, 0, 0⟩ : Leg)) h
theorem l_l3Survey {m : Mine} (h : m.aw.length ≤ 1000000) : p_spec_l3Survey m = some (sM m) := by
  unfold p_spec_l3Survey
  rw [loop_to (B := p_spec_l3Survey_L0 m) (fun k => ((k : Int), (sM m).legs.take k)) m.aw.length (by rfl) (e := (sM m).legs) (fun k hk => by
    simp only [p_spec_l3Survey_L0]
    rw [decide_eq_true (by omega), idx_at hk, need_of (by simp [sM_len]; omega), w64_succ (by omega), take_gx (by rw [sM_len]; exact hk), sM_gx hk]; rfl) (by
    simp only [p_spec_l3Survey_L0]
    rw [decide_eq_false (by omega), List.take_of_length_le (by rw [sM_len]; omega)]; rfl)]
  rfl
theorem ok_mem {m : Mine} (ok : MineOk m) : ∀ a ∈ m.aw, AwOk m.p a := fun a ha => by
  obtain ⟨k, hk, rfl⟩ := mem_gx ha
  exact ok.aw k hk
end Go.Proofs.YtpfijnklnljccaaDoor
