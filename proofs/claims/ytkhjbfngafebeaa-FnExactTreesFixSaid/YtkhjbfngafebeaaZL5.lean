/- The program's ways along tree legs (breadth first) and the places that they lead to; no condition but the sizes. -/
import Derived.Test.YtkhjbfngafebeaaZLp
namespace Go.Proofs.Ytkhjbfngafebeaa
open Go
set_option linter.unusedVariables false
set_option linter.unusedSimpArgs false

def rv (l : List Step) (k : Nat) : List Step := (List.range l.length).map fun a => if a < k ∨ l.length - k ≤ a then gx l (l.length - 1 - a) else gx l a
theorem rv_len {l : List Step} {k : Nat} : (rv l k).length = l.length := by simp [rv]
theorem rv_gx {l : List Step} {k a : Nat} (h : a < l.length) : gx (rv l k) a = if a < k ∨ l.length - k ≤ a then gx l (l.length - 1 - a) else gx l a := by
  unfold rv; rw [gx_of_map (by simpa using h), gx_range h]
theorem gx_rev {l : List Step} {a : Nat} (h : a < l.length) : gx l.reverse a = gx l (l.length - 1 - a) := by
  rw [gx_eq (by simpa using h), gx_eq (by omega), List.getElem_reverse]
theorem l_Reverse {l : List Step} (h : l.length ≤ 1000) : p_slices_Reverse_impl_Step_impl_Step l = some l.reverse := by
  unfold p_slices_Reverse_impl_Step_impl_Step
  rw [loop_to (B := p_slices_Reverse_impl_Step_impl_Step_L0 l) (fun k => ((k : Int), ((l.length : Nat) : Int) - 1 - (k : Int), rv l k)) (l.length / 2) (by
    rw [w64_i (by omega)]
    have : rv l 0 = l := gx_ext rv_len fun a ha => by
      rw [rv_len] at ha; rw [rv_gx ha, if_neg (by omega)]
    rw [this]
    simp) (e := l.reverse) (fun k hk => by
    simp only [p_slices_Reverse_impl_Step_impl_Step_L0]
    rw [decide_eq_true (by omega)]
    have e : ((l.length : Nat) : Int) - 1 - (k : Int) = ((l.length - 1 - k : Nat) : Int) := by omega
    simp only [cond_true]
    rw [e, idx_at (by omega), idx_at (by omega), w64_succ (by omega), w64_i (by omega)]
    have e2 : ((l.length - 1 - k : Nat) : Int) - 1 = ((l.length : Nat) : Int) - 1 - ((k + 1 : Nat) : Int) := by omega
    rw [e2]
    congr 4
    apply gx_ext (by simp only [List.length_set, rv_len])
    intro a ha
    simp only [List.length_set, rv_len] at ha
    by_cases c1 : l.length - 1 - k = a
    · subst c1
      rw [gx_set_self (by simp only [List.length_set, rv_len]; omega), rv_gx (by omega), rv_gx (by omega), if_neg (by omega), if_pos (by omega)]
      congr 1; omega
    · rw [gx_set_ne c1]
      by_cases c2 : k = a
      · subst c2
        rw [gx_set_self (by simp only [rv_len]; omega), rv_gx (by omega), rv_gx (by omega), if_neg (by omega), if_pos (by omega)]
      · rw [gx_set_ne c2, rv_gx ha, rv_gx ha]
        by_cases c3 : a < k ∨ l.length - k ≤ a
        · rw [if_pos c3, if_pos (by omega)]
        · rw [if_neg c3, if_neg (by omega)]) (by
    simp only [p_slices_Reverse_impl_Step_impl_Step_L0]
    rw [decide_eq_false (by omega)]
    simp only [cond_false]
    congr 2
    apply gx_ext (by simp only [rv_len, List.length_reverse])
    intro a ha
    rw [rv_len] at ha
    rw [rv_gx ha, gx_rev ha]
    by_cases c3 : a < l.length / 2 ∨ l.length - l.length / 2 ≤ a
    · rw [if_pos c3]
    · rw [if_neg c3]
      have : a = l.length - 1 - a := by omega
      rw [← this])]
  rfl

theorem l_stepEnds {s : Survey} {x : Step} (h : 0 ≤ x.i ∧ x.i < (s.legs.length : Int)) : p_impl_stepEnds s x = some (sf s x, st s x) := by
  obtain ⟨i, b⟩ := x
  obtain ⟨j, hj⟩ := Int.eq_ofNat_of_zero_le h.1
  simp only at h hj
  subst hj
  unfold p_impl_stepEnds
  rw [idx_at (by omega)]
  unfold sf st
  simp only [Int.toNat_natCast]
  cases b <;> rfl
/-- How many are not reached. -/
def un (R : List Bool) : Nat := (R.filter (!·)).length
theorem un_set : ∀ {R : List Bool} {w : Nat}, w < R.length → gx R w = false → un (R.set w true) + 1 = un R
  | [], w, h, _ => by simp at h
  | b :: R, 0, _, h => by
    have : b = false := h
    subst this; simp [un]
  | b :: R, w + 1, h, h2 => by
    rw [gx_succ] at h2
    have := un_set (R := R) (w := w) (by simpa using h) h2
    unfold un at this ⊢
    simp only [List.set_cons_succ]
    cases b <;> simp_all
theorem un_rep {n : Nat} : un (List.replicate n false) = n := by simp [un]
/-- What holds while the search goes on; the steps `G` from the place `a` were looked at. -/
structure Bf (s : Survey) (use : List Int) (n f a : Nat) (G : Step → Prop) (R : List Bool) (C : List Step) (q : List Int) : Prop where
  lr : R.length = n
  lc : C.length = n
  rf : gx R f = true
  tree : ∃ dep : Nat → Nat, (∀ v, v < n → gx R v = true → v ≠ f → (gx C v).i ∈ use ∧ st s (gx C v) = (v : Int) ∧ ∃ u : Nat, sf s (gx C v) = (u : Int) ∧ u < n ∧ gx R u = true ∧ dep v = dep u + 1) ∧ (∀ v, v < n → gx R v = true → dep v + un R + 1 ≤ n)
  qn : ∀ x ∈ q, ∃ v : Nat, x = (v : Int) ∧ v < n ∧ gx R v = true
  ms : 2 * un R + q.length ≤ 2 * n
  cl : ∀ v, v < n → gx R v = true → (v : Int) ∈ q ∨ ∀ x : Step, x.i ∈ use → (v = a → G x) → sf s x = (v : Int) → ∀ w : Nat, st s x = (w : Int) → gx R w = true
theorem bf_step {s : Survey} {use : List Int} {n f a : Nat} {G : Step → Prop} {R : List Bool} {C : List Step} {q : List Int} {y : Step} (h : Bf s use n f a G R C q) (hy : y.i ∈ use) (ha : a < n) (hra : gx R a = true) {w : Nat} (hw : st s y = (w : Int)) (hwn : w < n) (hs : sf s y = (a : Int)) (hr : gx R w = false) :
    Bf s use n f a (fun x => G x ∨ x = y) (R.set w true) (C.set w y) (q ++ [(w : Int)]) ∧ gx (R.set w true) a = true ∧ 2 * un (R.set w true) + (q ++ [(w : Int)]).length < 2 * un R + q.length := by
  have hlr := h.lr; have hlc := h.lc; have hms := h.ms
  have hu := un_set (R := R) (w := w) (by omega) hr
  have new : ∀ {v : Nat}, gx R v = true → gx (R.set w true) v = true := fun {v} e => by
    rw [gx_set (by omega)]; split
    · rfl
    · exact e
  have old : ∀ {v : Nat}, v ≠ w → gx (R.set w true) v = gx R v := fun {v} e => gx_set_ne (fun e2 => e e2.symm)
  have aw : a ≠ w := fun e => by rw [e, hr] at hra; cases hra
  obtain ⟨dep, d1, d2⟩ := h.tree
  refine ⟨⟨by simpa using hlr, by simpa using hlc, new h.rf, ?_, fun x hx => ?_, ?_, fun v hv hrv => ?_⟩, new hra, ?_⟩
  · refine ⟨fun v => if v = w then dep a + 1 else dep v, fun v hv hrv hvf => ?_, fun v hv hrv => ?_⟩
    · by_cases e : v = w
      · subst e
        rw [gx_set_self (by omega)]
        exact ⟨hy, hw, a, hs, ha, new hra, by simp only [if_true, if_neg aw]⟩
      · rw [old e] at hrv
        obtain ⟨x1, x2, u, x3, x4, x5, x6⟩ := d1 v hv hrv hvf
        rw [gx_set_ne (fun e2 => e e2.symm)]
        have uw : u ≠ w := fun e => by rw [e, hr] at x5; cases x5
        exact ⟨x1, x2, u, x3, x4, new x5, by simp only [if_neg e, if_neg uw]; exact x6⟩
    · by_cases e : v = w
      · subst e
        have := d2 a ha hra
        simp only [if_true]; omega
      · rw [old e] at hrv
        have := d2 v hv hrv
        simp only [if_neg e]; omega
  · rcases List.mem_append.1 hx with hx | hx
    · obtain ⟨v, e, h1, h2⟩ := h.qn x hx
      exact ⟨v, e, h1, new h2⟩
    · rw [List.mem_singleton.1 hx]
      exact ⟨w, rfl, hwn, gx_set_self (by omega)⟩
  · simp only [List.length_append, List.length_cons, List.length_nil]; omega
  · by_cases e : v = w
    · subst e; exact .inl (by simp)
    · rw [old e] at hrv
      rcases h.cl v hv hrv with h1 | h1
      · exact .inl (List.mem_append_left _ h1)
      · refine .inr fun x hx hG hsf w' hw' => ?_
        by_cases e2 : x = y
        · subst e2
          have : w' = w := by omega
          subst this; exact gx_set_self (by omega)
        · exact new (h1 x hx (fun e3 => (hG e3).resolve_right e2) hsf w' hw')
  · simp only [List.length_append, List.length_cons, List.length_nil]; omega
theorem bf_pass {s : Survey} {use : List Int} {n f a : Nat} {G : Step → Prop} {R : List Bool} {C : List Step} {q : List Int} {y : Step} (h : Bf s use n f a G R C q) {w : Nat} (hw : st s y = (w : Int)) (hs : sf s y = (a : Int) → gx R w = true) :
    Bf s use n f a (fun x => G x ∨ x = y) R C q := by
  refine ⟨h.lr, h.lc, h.rf, h.tree, h.qn, h.ms, fun v hv hrv => ?_⟩
  rcases h.cl v hv hrv with h1 | h1
  · exact .inl h1
  · refine .inr fun x hx hG hsf w' hw' => ?_
    by_cases e3 : v = a
    · subst e3
      by_cases e2 : x = y
      · subst e2
        have : w' = w := by omega
        subst this; exact hs hsf
      · exact h1 x hx (fun e3 => (hG e3).resolve_right e2) hsf w' hw'
    · exact h1 x hx (fun e => absurd e e3) hsf w' hw'
theorem bf_mono {s : Survey} {use : List Int} {n f a a' : Nat} {G G' : Step → Prop} {R : List Bool} {C : List Step} {q : List Int} (h : Bf s use n f a G R C q) (hG : ∀ x : Step, x.i ∈ use → ∀ v : Nat, (v = a' → G' x) → (v = a → G x)) : Bf s use n f a' G' R C q :=
  ⟨h.lr, h.lc, h.rf, h.tree, h.qn, h.ms, fun v hv hrv => (h.cl v hv hrv).imp id fun h1 x hx hg => h1 x hx (hG x hx v hg)⟩
/-- All that the loops need to know. -/
structure Bs (s : Survey) (use : List Int) (n f a : Nat) (G : Step → Prop) (μ : Nat) (R : List Bool) (C : List Step) (q : List Int) : Prop where
  bf : Bf s use n f a G R C q
  ra : gx R a = true
  dn : 2 * un R + q.length ≤ μ
theorem l_bfs2 {s : Survey} {use : List Int} {n f a : Nat} {G : Step → Prop} {qu R0 : List Int} {R : List Bool} {C : List Step} {q : List Int} {μ j : Nat} (ok : SurveyOk s) (hn : s.st = (n : Int)) (hu : ∀ j, j < use.length → 0 ≤ gx use j ∧ gx use j < (s.legs.length : Int)) (hj : j < use.length) (hq : gx qu 0 = (a : Int)) (ha : a < n) (h : Bs s use n f a G μ R C q) :
    Tot (loop (p_impl_TreeWay_L2 s use n n qu 0 j) (q, 0, R, C)) fun z => Bs s use n f a (fun x => G x ∨ x.i = gx use j) μ z.2.1 z.2.2 z.1 := by
  have p6 := ok.p6
  have hin : gx use j ∈ use := gx_mem hj
  have hb := hu j hj
  obtain ⟨i, hi⟩ := Int.eq_ofNat_of_zero_le hb.1
  have hl := ok.lg i (by omega)
  obtain ⟨x, hx⟩ := Int.eq_ofNat_of_zero_le hl.f0
  obtain ⟨y, hy⟩ := Int.eq_ofNat_of_zero_le hl.t0
  have hx1 := hl.f1; have hy1 := hl.t1
  have ge : (gx use j).toNat = i := by omega
  -- one step
  have one : ∀ {b : Bool} {G : Step → Prop} {R : List Bool} {C : List Step} {q : List Int} {k : Int} , Bs s use n f a G μ R C q →
      Tot ((p_impl_stepEnds s ⟨gx use j, b⟩).bind fun (v85, v86) => (cond (v85 == (gx qu 0)) (idx n v86 fun j94 => some (!(gx R j94))) (some false)).bind fun x89 => cond x89 (idx n v86 fun j99 => idx n v86 fun j100 => need (q.length + ([v86] : List Int).length ≤ 1073741824) <| some (Lp.next (ε := List Int × List Bool × List Step) (q ++ ([v86] : List Int), k, R.set j99 true, C.set j100 (⟨gx use j, b⟩ : Step)))) (some (.next (q, k, R, C)))) fun z => match z with | .next z => z.2.1 = k ∧ Bs s use n f a (fun x => G x ∨ x = ⟨gx use j, b⟩) μ z.2.2.1 z.2.2.2 z.1 | .out _ => False := by
    intro b G R C q k h
    have e1 : ∃ w : Nat, st s ⟨gx use j, b⟩ = (w : Int) ∧ w < n := by
      unfold st; simp only [ge]
      cases b
      · exact ⟨y, hy, by omega⟩
      · exact ⟨x, hx, by omega⟩
    obtain ⟨w, hw, hwn⟩ := e1
    rw [l_stepEnds hb, hw]
    simp only [Option.bind_some]
    have hms := h.bf.ms
    refine Tot.bind (R := fun z => z = (decide (sf s ⟨gx use j, b⟩ = (a : Int)) && !(gx R w))) ?_ fun z hz => ?_
    · rw [hq, beq_dec]
      refine Tot.condd (fun e => ?_) (fun e => Tot.ret (by rw [decide_eq_false e]; rfl))
      rw [idx_at hwn, decide_eq_true e]; exact Tot.ret rfl
    · subst hz
      refine Tot.cond (fun e => ?_) (fun e => Tot.ret ⟨rfl, ?_, h.ra, h.dn⟩)
      · rw [Bool.and_eq_true, decide_eq_true_eq, Bool.not_eq_true'] at e
        obtain ⟨b1, b2, b3⟩ := bf_step h.bf hin ha h.ra hw hwn e.1 e.2
        rw [idx_at hwn, idx_at hwn]
        refine Tot.need (by simp only [List.length_cons, List.length_nil]; omega) (Tot.ret ⟨rfl, b1, b2, ?_⟩)
        have := h.dn
        simp only at b3 ⊢; omega
      · refine bf_pass h.bf hw fun e2 => ?_
        rw [decide_eq_true e2, Bool.true_and, Bool.not_eq_false'] at e
        exact e
  refine Tot.loop (fun z => (z.2.1 = 0 ∧ Bs s use n f a G μ z.2.2.1 z.2.2.2 z.1) ∨ (z.2.1 = 1 ∧ Bs s use n f a (fun x => G x ∨ x = ⟨gx use j, false⟩) μ z.2.2.1 z.2.2.2 z.1) ∨ (z.2.1 = 2 ∧ Bs s use n f a (fun x => (G x ∨ x = ⟨gx use j, false⟩) ∨ x = ⟨gx use j, true⟩) μ z.2.2.1 z.2.2.2 z.1)) (fun z => (2 - z.2.1).toNat) (fun ⟨q, k, R, C⟩ hI => ?_) (.inl ⟨rfl, h⟩)
  simp only at hI
  simp only [p_impl_TreeWay_L2]
  rcases hI with ⟨rfl, hI⟩ | ⟨rfl, hI⟩ | ⟨rfl, hI⟩
  · rw [decide_eq_true (by omega)]
    simp only [cond_true]
    rw [show (0 : Int) = ((0 : Nat) : Int) from rfl, idx_at (by omega)]
    refine Tot.mono (one (b := false) (k := w64 (((0 : Nat) : Int) + 1)) hI) fun z hz => ?_
    match z, hz with
    | .next (q, k, R, C), ⟨h1, h2⟩ =>
      simp only at h1 h2 ⊢
      have e1 : w64 (((0 : Nat) : Int) + 1) = 1 := by rw [w64_i (by omega)]; rfl
      rw [e1] at h1; subst h1
      exact ⟨.inr (.inl ⟨rfl, h2⟩), by decide⟩
  · rw [decide_eq_true (by omega)]
    simp only [cond_true]
    rw [show (1 : Int) = ((1 : Nat) : Int) from rfl, idx_at (by omega)]
    refine Tot.mono (one (b := true) (k := w64 (((1 : Nat) : Int) + 1)) hI) fun z hz => ?_
    match z, hz with
    | .next (q, k, R, C), ⟨h1, h2⟩ =>
      simp only at h1 h2 ⊢
      have e1 : w64 (((1 : Nat) : Int) + 1) = 2 := by rw [w64_i (by omega)]; rfl
      rw [e1] at h1; subst h1
      exact ⟨.inr (.inr ⟨rfl, h2⟩), by decide⟩
  · rw [decide_eq_false (by omega)]
    refine Tot.ret ⟨bf_mono hI.bf fun z hz v hg e => ?_, hI.ra, hI.dn⟩
    rcases hg e with h1 | h1
    · exact .inl (.inl h1)
    · obtain ⟨zi, zb⟩ := z
      simp only at h1; subst h1
      cases zb
      · exact .inl (.inr rfl)
      · exact .inr rfl
theorem l_bfs1 {s : Survey} {use : List Int} {n f a : Nat} {qu : List Int} {R : List Bool} {C : List Step} {q : List Int} {μ : Nat} (ok : SurveyOk s) (hn : s.st = (n : Int)) (hu : ∀ j, j < use.length → 0 ≤ gx use j ∧ gx use j < (s.legs.length : Int)) (hul : use.length ≤ 1000) (hq : gx qu 0 = (a : Int)) (ha : a < n) (h : Bs s use n f a (fun _ => False) μ R C q) :
    Tot (loop (p_impl_TreeWay_L1 s use n n qu 0) (q, 0, R, C)) fun z => Bs s use n f a (fun _ => True) μ z.2.1 z.2.2 z.1 := by
  refine Tot.loop (fun z => ∃ k : Nat, z.2.1 = (k : Int) ∧ k ≤ use.length ∧ Bs s use n f a (fun x => ∃ j, j < k ∧ x.i = gx use j) μ z.2.2.1 z.2.2.2 z.1) (fun z => use.length - z.2.1.toNat) (fun ⟨q, k, R, C⟩ hI => ?_) ⟨0, rfl, Nat.zero_le _, bf_mono h.bf fun x _ v hg e => by obtain ⟨j, hj, _⟩ := hg e; omega, h.ra, h.dn⟩
  obtain ⟨k, hk0, hk, hI⟩ := hI
  simp only at hk0 hI
  subst hk0
  simp only [p_impl_TreeWay_L1]
  refine Tot.condd (fun h1 => ?_) (fun h1 => Tot.ret ⟨bf_mono hI.bf fun x hx v hg e => ?_, hI.ra, hI.dn⟩)
  · have hk1 : k < use.length := by omega
    rw [idx_at hk1]
    refine Tot.bind (l_bfs2 (R0 := []) ok hn hu hk1 hq ha hI) fun ⟨q, R, C⟩ hz => Tot.ret ?_
    simp only at hz ⊢
    rw [w64_succ (by omega)]
    refine ⟨⟨k + 1, rfl, by omega, bf_mono hz.bf fun x hx v hg e => ?_, hz.ra, hz.dn⟩, by omega⟩
    obtain ⟨j, hj, hji⟩ := hg e
    by_cases c : j = k
    · subst c; exact .inr hji
    · exact .inl ⟨j, by omega, hji⟩
  · obtain ⟨j, hj, hji⟩ := mem_gx hx
    exact ⟨j, by omega, hji.symm⟩
theorem l_bfs0 {s : Survey} {use : List Int} {n f a : Nat} {R : List Bool} {C : List Step} {q : List Int} (ok : SurveyOk s) (hn : s.st = (n : Int)) (hu : ∀ j, j < use.length → 0 ≤ gx use j ∧ gx use j < (s.legs.length : Int)) (hul : use.length ≤ 1000) (h : Bf s use n f a (fun _ => True) R C q) :
    Tot (loop (p_impl_TreeWay_L0 s use n n) (q, R, C)) fun z => Bf s use n f a (fun _ => True) z.1 z.2 [] := by
  have p6 := ok.p6
  refine Tot.loop (fun z => Bf s use n f a (fun _ => True) z.2.1 z.2.2 z.1) (fun z => 2 * un z.2.1 + z.1.length) (fun ⟨q, R, C⟩ hI => ?_) h
  simp only at hI
  simp only [p_impl_TreeWay_L0]
  have hms := hI.ms
  refine Tot.condd (fun h1 => ?_) (fun h1 => Tot.ret ?_)
  · have hql : 0 < q.length := by omega
    rw [show (0 : Int) = ((0 : Nat) : Int) from rfl, idx_at hql, show (1 : Int) = ((1 : Nat) : Int) from rfl, cut_at (by omega) (by omega)]
    cases q with
    | nil => simp at hql
    | cons y q =>
      have ey : ((y :: q).drop 1).take ((y :: q).length - 1) = q := by simp
      rw [ey]
      obtain ⟨v, e, hv, hrv⟩ := hI.qn y (by simp)
      refine Tot.bind (l_bfs1 (a := v) (μ := 2 * un R + q.length) ok hn hu hul (show gx (y :: q) 0 = (v : Int) from e) hv ⟨⟨hI.lr, hI.lc, hI.rf, hI.tree, fun x hx => hI.qn x (List.mem_cons_of_mem _ hx), ?_, fun v' hv' hrv' => ?_⟩, hrv, Nat.le_refl _⟩) fun ⟨q', R', C'⟩ hz => Tot.ret ?_
      · simp only [List.length_cons] at hms; omega
      · by_cases c : v' = v
        · exact .inr fun x hx hg => absurd (hg c) id
        · rcases hI.cl v' hv' hrv' with h2 | h2
          · rcases List.mem_cons.1 h2 with h3 | h3
            · omega
            · exact .inl h3
          · exact .inr fun x hx _ => h2 x hx fun _ => trivial
      · simp only at hz ⊢
        have := hz.dn
        exact ⟨bf_mono hz.bf fun _ _ _ _ _ => trivial, by simp only [List.length_cons]; omega⟩
  · have : q = [] := List.eq_nil_of_length_eq_zero (by omega)
    subst this; exact hI
theorem l_back {s : Survey} {use : List Int} {n f a t : Nat} {R : List Bool} {C : List Step} (ok : SurveyOk s) (hn : s.st = (n : Int)) (hu : ∀ i ∈ use, 0 ≤ i ∧ i < (s.legs.length : Int)) (h : Bf s use n f a (fun _ => True) R C []) (ht : t < n) (hrt : gx R t = true) :
    Tot (loop (p_impl_TreeWay_L3 s (f : Int) n C) (([] : List Step), (t : Int))) fun l => Wk s use (f : Int) (t : Int) l.reverse ∧ l.length ≤ 10 := by
  have p6 := ok.p6
  obtain ⟨dep, d1, d2⟩ := h.tree
  refine Tot.loop (fun z => ∃ v : Nat, z.2 = (v : Int) ∧ v < n ∧ gx R v = true ∧ Wk s use (v : Int) (t : Int) z.1.reverse ∧ z.1.length + dep v ≤ 10) (fun z => dep z.2.toNat) (fun ⟨l, v⟩ hI => ?_) ⟨t, rfl, ht, hrt, rfl, by have := d2 t ht hrt; simp only [List.length_nil]; omega⟩
  obtain ⟨v, e, hv, hrv, hw, hl⟩ := hI
  simp only at e hw hl
  subst e
  simp only [p_impl_TreeWay_L3]
  refine Tot.cond (fun h1 => ?_) (fun h1 => Tot.ret ?_)
  · have hne : v ≠ f := by have := bne_iff_ne.1 h1; omega
    rw [idx_at hv]
    obtain ⟨x1, x2, u, x3, x4, x5, x6⟩ := d1 v hv hrv hne
    refine Tot.need (by simp only [List.length_cons, List.length_nil]; omega) ?_
    rw [l_stepEnds (hu _ x1), x3]
    refine Tot.ret ⟨⟨u, rfl, x4, x5, ?_, ?_⟩, ?_⟩
    · simp only [List.reverse_append, List.reverse_cons, List.reverse_nil, List.nil_append, List.singleton_append]
      refine ⟨x1, x3, ?_⟩
      rw [x2]; exact hw
    · simp only [List.length_append, List.length_cons, List.length_nil]; omega
    · simp only [Int.toNat_natCast]; omega
  · have : v = f := by have := bne_eq_false_iff_eq.1 h1; omega
    subst this
    exact ⟨hw, by omega⟩
theorem l_implTreeWay {s : Survey} {f t : Nat} (ok : SurveyOk s) (hf : (f : Int) < s.st) (ht : (t : Int) < s.st) :
    Tot (p_impl_TreeWay s (f : Int) (t : Int)) fun r => (r.2 = true → Wk s (tl s) (f : Int) (t : Int) r.1 ∧ r.1.length ≤ 64) ∧ (sP s f = sP s t → r.2 = true) := by
  have p1 := ok.p1; have p6 := ok.p6; have n9 := ok.n9
  have hv := surveyOk_iff.2 ok
  obtain ⟨n, hn⟩ := Int.eq_ofNat_of_zero_le (show 0 ≤ s.st by omega)
  unfold p_impl_TreeWay
  rw [show (⟨s.st, s.legs⟩ : Survey) = s from rfl, l_implSurveyValid (by omega), hv]
  simp only [Option.bind_some, Bool.not_true, cond_false]
  rw [l_isIndex, l_isIndex, decide_eq_true (show (0 : Int) ≤ (f : Int) by omega), decide_eq_true hf, decide_eq_true (show (0 : Int) ≤ (t : Int) by omega), decide_eq_true ht]
  simp only [Bool.and_self, Bool.not_true, Option.bind_some, cond_false]
  rw [l_implTreeLegs (by omega), if_pos hv]
  simp only [Option.bind_some]
  have hfew := tl_few ok
  rw [hn, sized_at (by omega), sized_at (by omega), idx_at (by omega)]
  have hu := tl_at (s := s)
  have h0 : Bf s (tl s) n f f (fun _ => True) ((List.replicate n false).set f true) (List.replicate n ⟨0, false⟩) [(f : Int)] := by
    have hur := un_set (R := List.replicate n false) (w := f) (by simp; omega) (gx_rep (by omega))
    rw [un_rep] at hur
    have only : ∀ v, v < n → gx ((List.replicate n false).set f true) v = true → v = f := fun v hv h => by
      by_cases c : v = f
      · exact c
      · rw [gx_set_ne (fun e => c e.symm), gx_rep hv] at h; cases h
    have hff : gx ((List.replicate n false).set f true) f = true := gx_set_self (by simp; omega)
    refine ⟨by simp, by simp, hff, ⟨fun _ => 0, fun v hv h hne => absurd (only v hv h) hne, fun v hv h => by
      show 0 + un ((List.replicate n false).set f true) + 1 ≤ n
      omega⟩, fun x hx => ⟨f, List.mem_singleton.1 hx, by omega, hff⟩, by simp only [List.length_cons, List.length_nil]; omega, fun v hv h => .inl ?_⟩
    rw [only v hv h]; simp
  refine Tot.bind (l_bfs0 ok hn hu (by omega) h0) fun ⟨R, C⟩ h1 => ?_
  simp only at h1 ⊢
  rw [idx_at (by omega)]
  have key : sP s f = sP s t → gx R t = true := by
    intro e
    have resp : ∀ v, gx R v = true ↔ gx R (fj pid (us s (tl s)) v) = true := fj_resp (Q := fun v => gx R v = true) (fun v => Iff.rfl) fun ed hed => by
      unfold us at hed
      obtain ⟨i, hi, rfl⟩ := List.mem_map.1 hed
      obtain ⟨hi0, hi1⟩ := tl_mem i hi
      have lg := ok.lg i.toNat (by omega)
      obtain ⟨x, hx⟩ := Int.eq_ofNat_of_zero_le lg.f0
      obtain ⟨y, hy⟩ := Int.eq_ofNat_of_zero_le lg.t0
      have hx1 := lg.f1; have hy1 := lg.t1
      simp only [eL, hx, hy, Int.toNat_natCast]
      constructor
      · intro h
        rcases h1.cl x (by omega) h with h2 | h2
        · cases h2
        · exact h2 ⟨i, false⟩ hi (fun _ => trivial) (by simp [sf, hx]) y (by simp [st, hy])
      · intro h
        rcases h1.cl y (by omega) h with h2 | h2
        · cases h2
        · exact h2 ⟨i, true⟩ hi (fun _ => trivial) (by simp [sf, hy]) x (by simp [st, hx])
    have hp : fj pid (us s (tl s)) = sP s := tl_parts
    rw [hp] at resp
    rw [resp t, ← e, ← resp f]; exact h1.rf
  refine Tot.cond (fun h2 => Tot.ret ⟨fun h => (by cases h), fun e => ?_⟩) (fun h2 => ?_)
  · rw [key e] at h2; cases h2
  · rw [Bool.not_eq_false'] at h2
    refine Tot.bind (l_back ok hn tl_mem h1 (by omega) h2) fun l hl => ?_
    rw [l_Reverse (by omega)]
    exact Tot.ret ⟨fun _ => ⟨hl.1, by simp only [List.length_reverse]; omega⟩, fun _ => rfl⟩

theorem l_implOkLoop {s : Survey} {use : List Int} {t : Int} {l : List Step} (hl : l.length ≤ 1000) (hu : ∀ i ∈ use, 0 ≤ i ∧ i < (s.legs.length : Int)) : ∀ {rest : List Step} {v at_ : Int} {k : Nat}, l.drop k = rest → Wk s use v t rest →
    (at_ = v ∨ k = 0) → k ≤ l.length → loop (p_impl_StepsOk_L0 s l) (at_, (k : Int)) = some (.inl ())
  | [], v, at_, k, hd, _, _, hk => by
    have : l.length ≤ k := List.drop_eq_nil_iff.1 hd
    exact loop_out (by
      simp only [p_impl_StepsOk_L0]
      rw [decide_eq_false (by omega)]; rfl)
  | x :: rest, v, at_, k, hd, hw, ha, hk => by
    obtain ⟨hk1, e1, e2⟩ := drop_cons hd
    obtain ⟨hin, hs, hw2⟩ := hw
    have hb := hu _ hin
    rw [loop_next (s' := (st s x, ((k + 1 : Nat) : Int))) (by
      simp only [p_impl_StepsOk_L0]
      rw [decide_eq_true (by omega), idx_at hk1, e1, l_isIndex, decide_eq_true hb.1, decide_eq_true hb.2, w64_succ (by omega)]
      simp only [cond_true, Option.bind_some, Bool.and_self, Bool.not_true, cond_false]
      rw [show (⟨s.st, s.legs⟩ : Survey) = s from rfl, show (⟨x.i, x.b⟩ : Step) = x from rfl, l_stepEnds hb, hs]
      simp only [Option.bind_some]
      rcases ha with rfl | rfl
      · simp only [bne_self_eq_false, cond_false]; cases decide (0 < ((k : Nat) : Int)) <;> rfl
      · rfl)]
    exact l_implOkLoop hl hu e2 hw2 (.inl rfl) hk1
theorem l_implStepsOk {s : Survey} {v t : Int} {l : List Step} {use : List Int} (hu : ∀ i ∈ use, 0 ≤ i ∧ i < (s.legs.length : Int)) (ok : SurveyOk s) (hl : l.length ≤ 1000) (hw : Wk s use v t l) : p_impl_StepsOk s l = some true := by
  have n9 := ok.n9
  unfold p_impl_StepsOk
  rw [show (⟨s.st, s.legs⟩ : Survey) = s from rfl, l_implSurveyValid (by omega), surveyOk_iff.2 ok]
  simp only [Option.bind_some, Bool.not_true, cond_false]
  have := l_implOkLoop (k := 0) (at_ := -1) hl hu (List.drop_zero) hw (.inr rfl) (Nat.zero_le _)
  rw [show ((0 : Nat) : Int) = 0 from rfl] at this
  rw [this]; rfl
theorem l_implWayLoop {s : Survey} {use : List Int} {t : Int} {l : List Step} {ye yn yu : Int → Int} (hl : l.length ≤ 1000) (ok : SurveyOk s) (hu : ∀ i ∈ use, 0 ≤ i ∧ i < (s.legs.length : Int))
    (he : Po s use Leg.e ye) (hn : Po s use Leg.n yn) (hh : Po s use Leg.u yu) : ∀ {rest : List Step} {v a b c : Int} {k : Nat}, l.drop k = rest → Wk s use v t rest →
    k ≤ l.length → loop (p_impl_StepsWay_L0 s l) ((k : Int), w64 a, w64 b, w64 c) = some (w64 (a + (ye t - ye v)), w64 (b + (yn t - yn v)), w64 (c + (yu t - yu v)))
  | [], v, a, b, c, k, hd, hw, hk => by
    have : l.length ≤ k := List.drop_eq_nil_iff.1 hd
    have hw : v = t := hw
    subst hw
    exact loop_out (by
      simp only [p_impl_StepsWay_L0]
      rw [decide_eq_false (by omega)]
      simp)
  | x :: rest, v, a, b, c, k, hd, hw, hk => by
    obtain ⟨hk1, e1, e2⟩ := drop_cons hd
    obtain ⟨hin, hs, hw2⟩ := hw
    have hb := hu _ hin
    obtain ⟨i, hi⟩ := Int.eq_ofNat_of_zero_le hb.1
    have he1 := po_step he hin
    have hn1 := po_step hn hin
    have hh1 := po_step hh hin
    rw [hs] at he1 hn1 hh1
    have lo := ok.lg x.i.toNat (by omega)
    have a1 := lo.e0; have a2 := lo.e1; have a3 := lo.n0; have a4 := lo.n1; have a5 := lo.u0; have a6 := lo.u1
    have hx : x.i.toNat = i := by omega
    rw [hx] at he1 hn1 hh1 a1 a2 a3 a4 a5 a6
    rw [loop_next (s' := (((k + 1 : Nat) : Int), w64 (a + (ye (st s x) - ye v)), w64 (b + (yn (st s x) - yn v)), w64 (c + (yu (st s x) - yu v)))) (by
      simp only [p_impl_StepsWay_L0]
      rw [decide_eq_true (by omega), idx_at hk1, e1, w64_succ (by omega), hi]
      simp only [cond_true]
      rw [idx_at (by omega), he1, hn1, hh1]
      cases hb : x.b with
      | true =>
        simp only [p_impl_legWay, p_impl_LegBack, p_impl_WayAdd, cond_true, Option.bind_some, if_true, w64_add2]
      | false =>
        have n1 : w64 (gx s.legs i).e = (gx s.legs i).e := w64_i (by omega)
        have n2 : w64 (gx s.legs i).n = (gx s.legs i).n := w64_i (by omega)
        have n3 : w64 (gx s.legs i).u = (gx s.legs i).u := w64_i (by omega)
        simp only [p_impl_legWay, p_impl_WayAdd, cond_false, Option.bind_some, Bool.false_eq_true, if_false]
        rw [← n1, ← n2, ← n3]
        simp only [w64_add2]
        rw [n1, n2, n3])]
    rw [l_implWayLoop hl ok hu he hn hh e2 hw2 hk1]
    rw [show a + (ye (st s x) - ye v) + (ye t - ye (st s x)) = a + (ye t - ye v) by omega, show b + (yn (st s x) - yn v) + (yn t - yn (st s x)) = b + (yn t - yn v) by omega, show c + (yu (st s x) - yu v) + (yu t - yu (st s x)) = c + (yu t - yu v) by omega]
theorem l_implStepsWay {s : Survey} {v t : Int} {l : List Step} (ok : SurveyOk s) (hl : l.length ≤ 1000) (hw : Wk s (tl s) v t l) :
    p_impl_StepsWay s l = some (⟨w64 (yc s Leg.e t.toNat - yc s Leg.e v.toNat), w64 (yc s Leg.n t.toNat - yc s Leg.n v.toNat), w64 (yc s Leg.u t.toNat - yc s Leg.u v.toNat)⟩, true) := by
  unfold p_impl_StepsWay
  rw [show (⟨s.st, s.legs⟩ : Survey) = s from rfl, l_implStepsOk tl_mem ok hl hw]
  have h0 : w64 0 = 0 := w64_i (by omega)
  have := l_implWayLoop (k := 0) (a := 0) (b := 0) (c := 0) hl ok tl_mem (yc_po (s := s) (c := Leg.e)) (yc_po (s := s) (c := Leg.n)) (yc_po (s := s) (c := Leg.u)) (List.drop_zero) hw (Nat.zero_le _)
  rw [h0, show ((0 : Nat) : Int) = 0 from rfl] at this
  simp only [Option.bind_some, Bool.not_true, cond_false, this, Int.zero_add]
theorem l_implTreePlace {s : Survey} {v : Int} (h : s.legs.length ≤ 4611686018427387904) : p_impl_TreePlace s v = some (tpl s v) := by
  unfold p_impl_TreePlace tpl
  rw [show (⟨s.st, s.legs⟩ : Survey) = s from rfl, l_implSurveyValid h]
  cases hv : surveyOk s with
  | false => rfl
  | true =>
    have ok := surveyOk_iff.1 hv
    have p1 := ok.p1; have p6 := ok.p6; have n9 := ok.n9
    simp only [Option.bind_some, Bool.not_true, cond_false, Bool.true_and]
    rw [l_isIndex]
    show ((some (!inSt s v)).bind _) = _
    cases hi : inSt s v with
    | false => rfl
    | true =>
      simp only [Option.bind_some, Bool.not_true, cond_false, if_true]
      unfold inSt at hi
      simp only [Bool.and_eq_true, decide_eq_true_eq] at hi
      obtain ⟨x, hx⟩ := Int.eq_ofNat_of_zero_le hi.1
      subst hx
      rw [l_implParts h, if_pos hv]
      simp only [Option.bind_some]
      rw [pl_len, idx_at (by omega), pl_gx (by omega)]
      have hle := sP_good (s := s).le x
      obtain ⟨⟨l, o⟩, e, h1, h2⟩ := l_implTreeWay (f := sP s x) (t := x) ok (by omega) hi.2
      have o1 : o = true := h2 (sP_good.id x)
      subst o1
      obtain ⟨w, wl⟩ := h1 rfl
      rw [e]
      simp only [Option.bind_some, Bool.not_true, cond_false]
      rw [l_implStepsWay ok (by omega) w]
      rfl
end Go.Proofs.Ytkhjbfngafebeaa
