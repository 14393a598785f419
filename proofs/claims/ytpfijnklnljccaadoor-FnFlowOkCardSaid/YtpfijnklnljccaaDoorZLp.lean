/- Forests, tree legs, and the spec's search for a way along them; no condition but the sizes. -/
import Derived.Test.YtpfijnklnljccaaDoorZNa
import Derived.Test.YtpfijnklnljccaaDoorZLk
import Derived.Test.YtpfijnklnljccaaDoorZQ
import Derived.Test.YtpfijnklnljccaaDoorZLw
namespace Go.Proofs.YtpfijnklnljccaaDoor
open Go
set_option linter.unusedVariables false
set_option linter.unusedSimpArgs false

/-- Two places that a leg joins. -/
def Nb (E : List Ed) (v w : Nat) : Prop := ∃ e ∈ E, (e.a = v ∧ e.b = w) ∨ (e.b = v ∧ e.a = w)
/-- How deep each place lies, seen from `r`. -/
structure Dp (N : Nat → Nat → Prop) (P : Nat → Nat) (B r : Nat) (d : Nat → Nat) : Prop where
  root : d r = 0
  edge : ∀ v w, N v w → d w = d v + 1 ∨ d v = d w + 1
  uniq : ∀ v w w', N v w → N v w' → d v = d w + 1 → d v = d w' + 1 → w = w'
  low : ∀ v, P v = P r → v ≠ r → ∃ w, N v w ∧ d v = d w + 1
  bd : ∀ v, d v < B
theorem dp_join {N N' : Nat → Nat → Prop} {P P' : Nat → Nat} {B r x y : Nat} {d dy : Nat → Nat} (hr : Dp N P B r d) (hy : Dp N P B y dy)
    (hxy : P x ≠ P y) (hry : P r ≠ P y) (hN : ∀ v w, N v w → P v = P w) (hN' : ∀ v w, N' v w ↔ N v w ∨ (v = x ∧ w = y) ∨ (v = y ∧ w = x))
    (hP' : ∀ v w, P' v = P' w ↔ P v = P w ∨ (P v = P x ∧ P w = P y) ∨ (P v = P y ∧ P w = P x)) :
    Dp N' P' (B + B) r fun v => if P v = P y then d x + 1 + dy v else d v := by
  have fy : ∀ v, P v = P y → (if P v = P y then d x + 1 + dy v else d v) = d x + 1 + dy v := fun v h => if_pos h
  have fn : ∀ v, P v ≠ P y → (if P v = P y then d x + 1 + dy v else d v) = d v := fun v h => if_neg h
  have gx0 := fn x hxy
  have gy0 : (if P y = P y then d x + 1 + dy y else d y) = d x + 1 := by rw [fy y rfl, hy.root]
  refine ⟨by show (if _ then _ else _) = _; rw [fn r hry, hr.root], fun v w h => ?_, fun v w w' h h' e e' => ?_, fun v h hne => ?_, fun v => ?_⟩
  · show (if P w = P y then d x + 1 + dy w else d w) = (if P v = P y then d x + 1 + dy v else d v) + 1 ∨ (if P v = P y then d x + 1 + dy v else d v) = (if P w = P y then d x + 1 + dy w else d w) + 1
    rcases (hN' v w).1 h with h | ⟨rfl, rfl⟩ | ⟨rfl, rfl⟩
    · have hc := hN v w h
      by_cases c : P v = P y
      · rw [fy v c, fy w (hc ▸ c)]; have := hy.edge v w h; omega
      · rw [fn v c, fn w (hc ▸ c)]; exact hr.edge v w h
    · rw [gx0, gy0]; omega
    · rw [gx0, gy0]; omega
  · replace e : (if P v = P y then d x + 1 + dy v else d v) = (if P w = P y then d x + 1 + dy w else d w) + 1 := e
    replace e' : (if P v = P y then d x + 1 + dy v else d v) = (if P w' = P y then d x + 1 + dy w' else d w') + 1 := e'
    rcases (hN' v w).1 h with h | ⟨rfl, rfl⟩ | ⟨rfl, rfl⟩
    · have hc := hN v w h
      rcases (hN' v w').1 h' with h' | ⟨rfl, rfl⟩ | ⟨rfl, rfl⟩
      · have hc' := hN v w' h'
        by_cases c : P v = P y
        · rw [fy v c, fy w (hc ▸ c)] at e; rw [fy v c, fy w' (hc' ▸ c)] at e'
          exact hy.uniq v w w' h h' (by omega) (by omega)
        · rw [fn v c, fn w (hc ▸ c)] at e; rw [fn v c, fn w' (hc' ▸ c)] at e'
          exact hr.uniq v w w' h h' e e'
      · rw [gx0, gy0] at e'; omega
      · rw [gy0, fy w hc.symm] at e; omega
    · rw [gx0, gy0] at e; omega
    · rcases (hN' v w').1 h' with h' | ⟨h1, h2⟩ | ⟨_, h2⟩
      · have hc' := hN v w' h'
        rw [gy0, fy w' hc'.symm] at e'; omega
      · exact absurd (congrArg P h1) (fun h => hxy h.symm)
      · exact h2.symm
  · show ∃ w, N' v w ∧ (if P v = P y then d x + 1 + dy v else d v) = (if P w = P y then d x + 1 + dy w else d w) + 1
    rcases (hP' v r).1 h with h | ⟨h1, h2⟩ | ⟨h1, h2⟩
    · obtain ⟨w, hw, e⟩ := hr.low v h hne
      have hc := hN v w hw
      exact ⟨w, (hN' v w).2 (.inl hw), by rw [fn v (by rw [h]; exact hry), fn w (by rw [← hc, h]; exact hry), e]⟩
    · exact absurd h2 hry
    · by_cases c : v = y
      · subst c
        exact ⟨x, (hN' v x).2 (.inr (.inr ⟨rfl, rfl⟩)), by rw [gx0, gy0]⟩
      · obtain ⟨w, hw, e⟩ := hy.low v h1 c
        have hc := hN v w hw
        exact ⟨w, (hN' v w).2 (.inl hw), by rw [fy v h1, fy w (hc ▸ h1)]; omega⟩
  · show (if P v = P y then d x + 1 + dy v else d v) < B + B
    have h1 := hr.bd v
    have h2 := hr.bd x
    have h3 := hy.bd v
    split <;> omega
theorem fj_snoc {P : Pt} {E : List Ed} {e : Ed} : fj P (E ++ [e]) = jP (fj P E) e := by unfold fj; rw [List.foldl_append]; rfl
theorem jok_snoc : ∀ {E : List Ed} {P : Pt} {e : Ed}, jok P (E ++ [e]) = (jok P E && (fj P E e.a != fj P E e.b))
  | [], P, e => by simp [jok, fj]
  | f :: E, P, e => by
    show ((P f.a != P f.b) && jok (jP P f) (E ++ [e])) = (((P f.a != P f.b) && jok (jP P f) E) && (fj (jP P f) E e.a != fj (jP P f) E e.b))
    rw [jok_snoc, Bool.and_assoc]
theorem nb_part {E : List Ed} {P : Pt} {v w : Nat} (h : Nb E v w) : fj P E v = fj P E w := by
  obtain ⟨e, he, ⟨rfl, rfl⟩ | ⟨rfl, rfl⟩⟩ := h
  · exact fj_eq he
  · exact (fj_eq he).symm
theorem jP_rel {P : Pt} {e : Ed} {v w : Nat} : jP P e v = jP P e w ↔ P v = P w ∨ (P v = P e.a ∧ P w = P e.b) ∨ (P v = P e.b ∧ P w = P e.a) := by
  unfold jP
  rcases hiP_or (P := P) (e := e) with ⟨h1, h2⟩ | ⟨h1, h2⟩ <;> rw [h1, h2]
  · constructor
    · intro h
      split at h <;> split at h <;> omega
    · intro h; split <;> split <;> omega
  · constructor
    · intro h
      split at h <;> split at h <;> omega
    · intro h; split <;> split <;> omega
theorem nb_snoc {E : List Ed} {e : Ed} {v w : Nat} : Nb (E ++ [e]) v w ↔ Nb E v w ∨ (v = e.a ∧ w = e.b) ∨ (v = e.b ∧ w = e.a) := by
  constructor
  · rintro ⟨f, hf, h⟩
    rcases List.mem_append.1 hf with hf | hf
    · exact .inl ⟨f, hf, h⟩
    · rw [List.mem_singleton.1 hf] at h
      rcases h with ⟨h1, h2⟩ | ⟨h1, h2⟩
      · exact .inr (.inl ⟨h1.symm, h2.symm⟩)
      · exact .inr (.inr ⟨h1.symm, h2.symm⟩)
  · rintro (⟨f, hf, h⟩ | ⟨rfl, rfl⟩ | ⟨rfl, rfl⟩)
    · exact ⟨f, List.mem_append_left _ hf, h⟩
    · exact ⟨e, by simp, .inl ⟨rfl, rfl⟩⟩
    · exact ⟨e, by simp, .inr ⟨rfl, rfl⟩⟩
/-- A forest has a depth from every root. -/
theorem dp_forest : ∀ {n : Nat} {E : List Ed}, E.length = n → jok pid E = true → ∀ r, ∃ d, Dp (Nb E) (fj pid E) (2 ^ n) r d
  | 0, E, hl, _, r => by
    have := List.length_eq_zero_iff.1 hl; subst this
    refine ⟨fun _ => 0, rfl, ?_, ?_, ?_, fun _ => by simp⟩
    · rintro v w ⟨e, he, _⟩; cases he
    · rintro v w _ ⟨e, he, _⟩; cases he
    · intro v h hne; exact absurd h hne
  | n + 1, E, hl, hk, r => by
    have hne : E ≠ [] := by intro h; rw [h] at hl; simp at hl
    obtain ⟨F, e, rfl⟩ : ∃ F e, E = F ++ [e] := ⟨E.dropLast, E.getLast hne, (List.dropLast_concat_getLast hne).symm⟩
    have hlF : F.length = n := by simp at hl; exact hl
    rw [jok_snoc, Bool.and_eq_true] at hk
    obtain ⟨hkF, hab⟩ := hk
    have hab : fj pid F e.a ≠ fj pid F e.b := by simpa using hab
    have D := dp_forest hlF hkF
    have e2 : 2 ^ (n + 1) = 2 ^ n + 2 ^ n := by omega
    rw [e2, fj_snoc]
    obtain ⟨d, hd⟩ := D r
    by_cases c : fj pid F r = fj pid F e.b
    · obtain ⟨dy, hy⟩ := D e.a
      exact ⟨_, dp_join (x := e.b) (y := e.a) hd hy (fun h => hab h.symm) (by rw [c]; exact fun h => hab h.symm) (fun v w h => nb_part h)
        (fun v w => by rw [nb_snoc]; constructor <;> (rintro (h | h | h) <;> simp [h])) (fun v w => by rw [jP_rel]; constructor <;> (rintro (h | h | h) <;> simp [h]))⟩
    · obtain ⟨dy, hy⟩ := D e.b
      exact ⟨_, dp_join (x := e.a) (y := e.b) hd hy hab c (fun v w h => nb_part h) (fun v w => nb_snoc) (fun v w => jP_rel)⟩
/-- A way that goes deeper at every step. -/
inductive Asc (N : Nat → Nat → Prop) (d : Nat → Nat) : Nat → Nat → Prop
  | refl (v : Nat) : Asc N d v v
  | step {v w t : Nat} : N v w → d w = d v + 1 → Asc N d w t → Asc N d v t
theorem Asc.snoc {N : Nat → Nat → Prop} {d : Nat → Nat} {v u t : Nat} (h : Asc N d v u) (hn : N u t) (hd : d t = d u + 1) : Asc N d v t := by
  induction h with
  | refl v => exact .step hn hd (.refl t)
  | step h1 h2 _ ih => exact .step h1 h2 (ih hn hd)
theorem nb_symm {E : List Ed} {v w : Nat} (h : Nb E v w) : Nb E w v := by
  obtain ⟨e, he, h⟩ := h
  exact ⟨e, he, h.elim (fun h => .inr ⟨h.2, h.1⟩) (fun h => .inl ⟨h.2, h.1⟩)⟩
theorem dp_asc {E : List Ed} {B r : Nat} {d : Nat → Nat} (h : Dp (Nb E) (fj pid E) B r d) : ∀ {k t : Nat}, d t = k → fj pid E t = fj pid E r → Asc (Nb E) d r t
  | k, t, hk, ht => by
    by_cases c : t = r
    · subst c; exact .refl t
    · obtain ⟨w, hw, e⟩ := h.low t ht c
      exact (dp_asc h (k := d w) rfl (by rw [← nb_part hw, ht])).snoc (nb_symm hw) e
  termination_by k => k
  decreasing_by omega

def lg (s : Survey) : List Ed := s.legs.map (eL c0)
theorem lg_gx {s : Survey} {k : Nat} (h : k < s.legs.length) : gx (lg s) k = eL c0 (gx s.legs k) := by unfold lg; rw [gx_of_map h]
/-- Does leg `k` join two parts of those before it? -/
def jn (s : Survey) (k : Nat) : Bool := fj pid ((lg s).take k) (gx s.legs k).f.toNat != fj pid ((lg s).take k) (gx s.legs k).t.toNat
def TL (s : Survey) : Nat → List Int
  | 0 => []
  | k + 1 => if jn s k then TL s k ++ [(k : Int)] else TL s k
theorem us_app {s : Survey} {a b : List Int} : us s (a ++ b) = us s a ++ us s b := by unfold us; rw [List.map_append]
theorem us_one {s : Survey} {k : Nat} : us s [(k : Int)] = [eL c0 (gx s.legs k)] := by simp [us]
theorem TL_mem {s : Survey} : ∀ {k : Nat}, ∀ i ∈ TL s k, 0 ≤ i ∧ i < (k : Int)
  | 0, i, h => by cases h
  | k + 1, i, h => by
    unfold TL at h
    split at h
    · rcases List.mem_append.1 h with h | h
      · have := TL_mem i h; omega
      · rw [List.mem_singleton.1 h]; omega
    · have := TL_mem i h; omega
theorem TL_len {s : Survey} : ∀ {k : Nat}, (TL s k).length ≤ k
  | 0 => Nat.le_refl 0
  | k + 1 => by
    have := TL_len (s := s) (k := k)
    unfold TL
    split
    · simp; omega
    · omega
theorem TL_parts {s : Survey} : ∀ {k : Nat}, k ≤ s.legs.length → fj pid (us s (TL s k)) = fj pid ((lg s).take k) ∧ jok pid (us s (TL s k)) = true
  | 0, _ => ⟨by simp [TL, us], rfl⟩
  | k + 1, h => by
    have hk : k < s.legs.length := by omega
    obtain ⟨h1, h2⟩ := TL_parts (s := s) (k := k) (by omega)
    rw [fj_take (by unfold lg; rw [List.length_map]; exact hk), lg_gx hk]
    unfold TL
    by_cases c : jn s k = true
    · rw [if_pos c, us_app, us_one, fj_snoc, jok_snoc, h1, h2]
      refine ⟨rfl, ?_⟩
      exact c
    · rw [if_neg c, h1]
      have c2 : fj pid ((lg s).take k) (gx s.legs k).f.toNat = fj pid ((lg s).take k) (gx s.legs k).t.toNat := by simpa [jn] using c
      exact ⟨(jP_same (e := eL c0 (gx s.legs k)) c2).symm, h2⟩
theorem TL_at {s : Survey} {k : Nat} (hk : k ≤ s.legs.length) : ∀ j, j < (TL s k).length → 0 ≤ gx (TL s k) j ∧ gx (TL s k) j < s.legs.length := fun j hj => by
  have := TL_mem _ (gx_mem hj); omega
theorem take_all {s : Survey} : (lg s).take s.legs.length = lg s := by
  have : (lg s).length = s.legs.length := by simp [lg]
  rw [← this, List.take_length]
theorem nat_bne {a b : Nat} : ((a : Int) != (b : Int)) = (a != b) := by
  rw [Bool.eq_iff_iff, bne_iff_ne, bne_iff_ne]; omega
/-- The tree legs of a survey. -/
def tl (s : Survey) : List Int := TL s s.legs.length
theorem tl_parts {s : Survey} : fj pid (us s (tl s)) = sP s := by unfold tl; rw [(TL_parts (Nat.le_refl _)).1, take_all]; rfl
theorem tl_jok {s : Survey} : jok pid (us s (tl s)) = true := (TL_parts (Nat.le_refl _)).2
theorem tl_at {s : Survey} : ∀ j, j < (tl s).length → 0 ≤ gx (tl s) j ∧ gx (tl s) j < s.legs.length := TL_at (Nat.le_refl _)
theorem tl_mem {s : Survey} : ∀ i ∈ tl s, 0 ≤ i ∧ i < (s.legs.length : Int) := TL_mem
theorem l_specTreeLegs {s : Survey} (h : s.legs.length ≤ 4611686018427387904) : p_spec_TreeLegs s = some (if surveyOk s then tl s else []) := by
  unfold p_spec_TreeLegs
  have es : (⟨s.st, s.legs⟩ : Survey) = s := rfl
  cases hv : surveyOk s with
  | false =>
    rw [loop_out (e := []) (by
      simp only [p_spec_TreeLegs_L0, es, l_specSurveyValid h, hv]
      cases decide (0 < ((s.legs.length : Nat) : Int)) <;> rfl)]
    rfl
  | true =>
    have ok := surveyOk_iff.1 hv
    have p1 := ok.p1; have p6 := ok.p6; have n9 := ok.n9
    rw [loop_to (B := p_spec_TreeLegs_L0 s) (fun k => (TL s k, (k : Int))) s.legs.length (by rfl) (e := tl s) (fun k hk => by
      simp only [p_spec_TreeLegs_L0, es, l_specSurveyValid h, hv]
      have hl := TL_len (s := s) (k := k)
      have a := ok.lg k hk
      rw [decide_eq_true (by omega)]
      simp only [cond_true, Option.bind_some]
      rw [l_l1Parts (n := s.st.toNat) (by omega) (by omega) (by omega) (by omega) (TL_at (by omega)) (ok_ends ok), (TL_parts (by omega)).1]
      simp only [Option.bind_some]
      obtain ⟨x, hx⟩ := Int.eq_ofNat_of_zero_le a.f0
      obtain ⟨y, hy⟩ := Int.eq_ofNat_of_zero_le a.t0
      have a1 := a.f1; have a2 := a.t1
      rw [idx_at hk, hx, hy, pl_len, idx_at (by omega), idx_at (by omega), pl_gx (by omega), pl_gx (by omega), w64_succ (by omega)]
      have ej : (((fj pid ((lg s).take k) x : Nat) : Int) != ((fj pid ((lg s).take k) y : Nat) : Int)) = jn s k := by
        unfold jn; rw [hx, hy]; exact nat_bne
      rw [ej, need_of (by simp; omega)]
      show _ = some (Lp.next ((if jn s k then TL s k ++ [(k : Int)] else TL s k), ((k + 1 : Nat) : Int)))
      cases jn s k <;> rfl) (by
      simp only [p_spec_TreeLegs_L0, es, l_specSurveyValid h, hv]
      rw [decide_eq_false (by omega)]; rfl)]
    rfl
/-- There are fewer tree legs than stations. -/
theorem tl_few {s : Survey} (ok : SurveyOk s) : (tl s).length + 1 ≤ s.st.toNat := by
  have p1 := ok.p1; have p6 := ok.p6
  have hI : Inm (s.st.toNat - 1) (us s (tl s)) := fun e he => by
    unfold us at he
    obtain ⟨i, hi, rfl⟩ := List.mem_map.1 he
    obtain ⟨h0, h1⟩ := tl_mem i hi
    have a := ok.lg i.toNat (by omega)
    have := a.f1; have := a.t1; have := a.f0; have := a.t0
    refine ⟨?_, ?_⟩ <;> simp only [eL] <;> omega
  have h1 := (cn_fj pid_good hI).2.1 tl_jok
  rw [cn_pid] at h1
  have h2 : 1 ≤ cn (s.st.toNat - 1) (fj pid (us s (tl s))) := by
    unfold cn
    have g : Good (fj pid (us s (tl s))) := fj_good pid_good
    have : 0 ∈ (List.range (s.st.toNat - 1 + 1)).filter fun v => fj pid (us s (tl s)) v == v := by
      rw [List.mem_filter]; refine ⟨by simp, ?_⟩; rw [g.zero]; rfl
    exact List.length_pos_of_mem this
  have h3 : (us s (tl s)).length = (tl s).length := by simp [us]
  omega

/-- Where a step begins and ends. -/
def sf (s : Survey) (x : Step) : Int := if x.b then (gx s.legs x.i.toNat).t else (gx s.legs x.i.toNat).f
def st (s : Survey) (x : Step) : Int := if x.b then (gx s.legs x.i.toNat).f else (gx s.legs x.i.toNat).t
/-- A way from place to place along the legs `use`. -/
def Wk (s : Survey) (use : List Int) : Int → Int → List Step → Prop
  | v, t, [] => v = t
  | v, t, x :: l => x.i ∈ use ∧ sf s x = v ∧ Wk s use (st s x) t l
theorem nb_us {s : Survey} {use : List Int} {v w : Nat} : Nb (us s use) v w ↔ ∃ i ∈ use, ((gx s.legs i.toNat).f.toNat = v ∧ (gx s.legs i.toNat).t.toNat = w) ∨ ((gx s.legs i.toNat).t.toNat = v ∧ (gx s.legs i.toNat).f.toNat = w) := by
  unfold Nb us
  constructor
  · rintro ⟨e, he, h⟩
    obtain ⟨i, hi, rfl⟩ := List.mem_map.1 he
    exact ⟨i, hi, h⟩
  · rintro ⟨i, hi, h⟩
    exact ⟨_, List.mem_map.2 ⟨i, hi, rfl⟩, h⟩
theorem asc_step {N : Nat → Nat → Prop} {d : Nat → Nat} {v t : Nat} (h : Asc N d v t) (hne : v ≠ t) : ∃ w, N v w ∧ d w = d v + 1 ∧ Asc N d w t := by
  cases h with
  | refl => exact absurd rfl hne
  | step h1 h2 h3 => exact ⟨_, h1, h2, h3⟩
/-- What the search answers. -/
def Fd (s : Survey) (use : List Int) (d : Nat → Nat) (v t fuel : Nat) (r : List Step × Bool) : Prop :=
  (r.2 = true → Wk s use (v : Int) (t : Int) r.1 ∧ r.1.length ≤ fuel) ∧ (Asc (Nb (us s use)) d v t → r.2 = true)
theorem l_find {s : Survey} {use : List Int} {B r t : Nat} {d : Nat → Nat} (ok : SurveyOk s) (hu : ∀ j, j < use.length → 0 ≤ gx use j ∧ gx use j < s.legs.length)
    (hul : use.length ≤ 1000) (D : Dp (Nb (us s use)) (fj pid (us s use)) B r d) : ∀ {fuel v : Nat} {but : Int}, fuel ≤ 1000 → B ≤ d v + fuel →
    (∀ w, Nb (us s use) v w → d v = d w + 1 → (w : Int) = but) → (∀ w, Nb (us s use) v w → d w = d v + 1 → (w : Int) ≠ but) →
    Tot (p_spec_l1Find fuel s use (v : Int) (t : Int) but) (Fd s use d v t fuel)
  | 0, v, but, _, hB, _, _ => by have := D.bd v; omega
  | fuel + 1, v, but, hf, hB, hlow, hup => by
    have n9 := ok.n9
    unfold p_spec_l1Find
    refine Tot.cond (fun h => Tot.ret ?_) (fun h => ?_)
    · have : v = t := by have := beq_iff_eq.1 h; omega
      subst this
      exact ⟨fun _ => ⟨rfl, Nat.zero_le _⟩, fun _ => rfl⟩
    · have hne : v ≠ t := by have := beq_eq_false_iff_ne.1 h; omega
      -- what going along leg i from v to w gives
      have go : ∀ {w : Nat}, Nb (us s use) v w → (w : Int) ≠ but → Tot (p_spec_l1Find fuel s use (w : Int) (t : Int) (v : Int)) (Fd s use d w t fuel) ∧ d w = d v + 1 := by
        intro w hw hb
        have hd : d w = d v + 1 := by
          rcases D.edge v w hw with h | h
          · exact h
          · exact absurd (hlow w hw h) hb
        refine ⟨l_find ok hu hul D (by omega) (by omega) (fun u hu' e => ?_) (fun u hu' e => ?_), hd⟩
        · have := D.uniq w u v hu' (nb_symm hw) e hd
          rw [this]
        · intro e2
          have : u = v := by omega
          subst this; omega
      refine Tot.bind (R := fun z => match z with | .inr w => w.2 = true ∧ Fd s use d v t (fuel + 1) w | .inl _ => ¬ Asc (Nb (us s use)) d v t) ?_ (fun z hz => ?_)
      · refine Tot.loop (fun n : Int => ∃ k : Nat, n = (k : Int) ∧ k ≤ use.length ∧ ∀ j, j < k → ∀ w : Nat, (((gx s.legs (gx use j).toNat).f = (v : Int) ∧ (gx s.legs (gx use j).toNat).t = (w : Int)) ∨ ((gx s.legs (gx use j).toNat).t = (v : Int) ∧ (gx s.legs (gx use j).toNat).f = (w : Int))) → d w = d v + 1 → ¬ Asc (Nb (us s use)) d w t)
          (fun n => use.length - n.toNat) (fun n hn => ?_) ⟨0, rfl, Nat.zero_le _, fun j hj => by omega⟩
        obtain ⟨k, rfl, hk, hno⟩ := hn
        simp only [p_spec_l1Find_L0]
        refine Tot.condd (fun hlt => ?_) (fun hge => Tot.ret ?_)
        · refine Tot.idx (by omega) fun j ej hj => ?_
          have : j = k := by omega
          subst this
          have hm := hu j hj
          have a := ok.lg (gx use j).toNat (by omega)
          obtain ⟨x, hx⟩ := Int.eq_ofNat_of_zero_le a.f0
          obtain ⟨y, hy⟩ := Int.eq_ofNat_of_zero_le a.t0
          have hin : gx use j ∈ use := gx_mem hj
          have nxy : Nb (us s use) x y := nb_us.2 ⟨_, hin, .inl ⟨by rw [hx]; rfl, by rw [hy]; rfl⟩⟩
          refine Tot.idx (by omega) fun i ei hi => ?_
          have : i = (gx use j).toNat := by omega
          subst this
          rw [hx, hy]
          -- the leg taken forward
          refine Tot.bind (R := fun b => b = (decide (x = v) && !decide ((y : Int) = but))) ?_ (fun b hb => ?_)
          · refine Tot.cond (fun h => ?_) (fun h => ?_)
            · have : x = v := by have := beq_iff_eq.1 h; omega
              subst this
              exact Tot.ret (by simp; rfl)
            · have : x ≠ v := by have := beq_eq_false_iff_ne.1 h; omega
              exact Tot.ret (by simp [this])
          subst hb
          refine Tot.bind (R := fun z => match z with | .inr w => (match w with | .out (.inr q) => q.2 = true ∧ Fd s use d v t (fuel + 1) q | _ => False) | .inl _ => x = v → d y = d v + 1 → ¬ Asc (Nb (us s use)) d y t) ?_ (fun z hz => ?_)
          · refine Tot.cond (fun h => ?_) (fun h => ?_)
            · simp only [Bool.and_eq_true, decide_eq_true_eq, Bool.not_eq_true', decide_eq_false_iff_not] at h
              obtain ⟨rfl, hb⟩ := h
              obtain ⟨g, gd⟩ := go nxy hb
              refine Tot.bind g fun ⟨l, o⟩ ho => ?_
              refine Tot.cond (fun h2 => ?_) (fun h2 => Tot.ret ?_)
              · simp only at h2; subst h2
                have w := ho.1 rfl
                simp only at w
                refine Tot.idx (by omega) fun j2 ej2 hj2 => Tot.need (by simp; omega) (Tot.ret ⟨rfl, fun _ => ⟨⟨?_, ?_, ?_⟩, ?_⟩, fun _ => rfl⟩)
                · have : j2 = j := by omega
                  subst this; exact hin
                · have : j2 = j := by omega
                  subst this; exact hx
                · have : j2 = j := by omega
                  subst this
                  have : st s ⟨gx use j2, false⟩ = (y : Int) := hy
                  rw [this]; exact w.1
                · simp; omega
              · simp only at h2; subst h2
                intro _ _ h3
                have := ho.2 h3
                cases this
            · refine Tot.ret ?_
              intro e1 e2
              subst e1
              simp only [decide_true, Bool.true_and, Bool.not_eq_false', decide_eq_true_eq] at h
              exact absurd h (hup y nxy e2)
          · match z, hz with
            | .inr (.out (.inr q)), hz => exact Tot.ret hz
            | .inl _, hz =>
              refine Tot.bind (R := fun b => b = (decide (y = v) && !decide ((x : Int) = but))) ?_ (fun b hb => ?_)
              · refine Tot.cond (fun h => ?_) (fun h => ?_)
                · have : y = v := by have := beq_iff_eq.1 h; omega
                  subst this
                  exact Tot.ret (by simp; rfl)
                · have : y ≠ v := by have := beq_eq_false_iff_ne.1 h; omega
                  exact Tot.ret (by simp [this])
              · subst hb
                have fin : (y = v → d x = d v + 1 → ¬ Asc (Nb (us s use)) d x t) → (∃ k : Nat, (w64 ((j : Int) + 1)) = (k : Int) ∧ k ≤ use.length ∧ ∀ j, j < k → ∀ w : Nat, (((gx s.legs (gx use j).toNat).f = (v : Int) ∧ (gx s.legs (gx use j).toNat).t = (w : Int)) ∨ ((gx s.legs (gx use j).toNat).t = (v : Int) ∧ (gx s.legs (gx use j).toNat).f = (w : Int))) → d w = d v + 1 → ¬ Asc (Nb (us s use)) d w t) ∧ use.length - (w64 ((j : Int) + 1)).toNat < use.length - ((j : Int)).toNat := by
                  intro hb
                  rw [w64_succ (by omega)]
                  refine ⟨⟨j + 1, rfl, by omega, fun i hi w hw hd => ?_⟩, by omega⟩
                  by_cases c : i < j
                  · exact hno i c w hw hd
                  · have : i = j := by omega
                    subst this
                    rw [hx, hy] at hw
                    rcases hw with ⟨e1, e2⟩ | ⟨e1, e2⟩
                    · have e1 : x = v := by omega
                      have e2 : y = w := by omega
                      subst e2; exact hz e1 hd
                    · have e1 : y = v := by omega
                      have e2 : x = w := by omega
                      subst e2; exact hb e1 hd
                refine Tot.cond (fun h => ?_) (fun h => ?_)
                · simp only [Bool.and_eq_true, decide_eq_true_eq, Bool.not_eq_true', decide_eq_false_iff_not] at h
                  obtain ⟨rfl, hb⟩ := h
                  obtain ⟨g, gd⟩ := go (nb_symm nxy) hb
                  refine Tot.bind g fun ⟨l, o⟩ ho => ?_
                  refine Tot.cond (fun h2 => ?_) (fun h2 => Tot.ret ?_)
                  · simp only at h2; subst h2
                    have w := ho.1 rfl
                    simp only at w
                    refine Tot.idx (by omega) fun j2 ej2 hj2 => Tot.need (by simp; omega) (Tot.ret ⟨rfl, fun _ => ⟨⟨?_, ?_, ?_⟩, ?_⟩, fun _ => rfl⟩)
                    · have : j2 = j := by omega
                      subst this; exact hin
                    · have : j2 = j := by omega
                      subst this; exact hy
                    · have : j2 = j := by omega
                      subst this
                      have : st s ⟨gx use j2, true⟩ = (x : Int) := hx
                      rw [this]; exact w.1
                    · simp; omega
                  · simp only at h2; subst h2
                    refine fin fun _ _ h3 => ?_
                    have := ho.2 h3
                    cases this
                · refine Tot.ret (fin fun e1 e2 => ?_)
                  subst e1
                  simp only [decide_true, Bool.true_and, Bool.not_eq_false', decide_eq_true_eq] at h
                  exact absurd h (hup x (nb_symm nxy) e2)
        · intro ha
          obtain ⟨w, hw, hd, h3⟩ := asc_step ha hne
          obtain ⟨i, hi, he⟩ := nb_us.1 hw
          obtain ⟨j, hj, rfl⟩ := mem_gx hi
          have hm := hu j hj
          have a := ok.lg (gx use j).toNat (by omega)
          have a0 := a.f0; have a1 := a.t0
          refine hno j (by omega) w ?_ hd h3
          rcases he with ⟨e1, e2⟩ | ⟨e1, e2⟩
          · exact .inl ⟨by omega, by omega⟩
          · exact .inr ⟨by omega, by omega⟩
      · match z, hz with
        | .inr q, hz => exact Tot.ret hz.2
        | .inl _, hz => exact Tot.ret ⟨fun h => (by cases h), fun h => absurd h hz⟩

theorem l_specTreeWay {s : Survey} {f t : Nat} (ok : SurveyOk s) (hf : (f : Int) < s.st) (ht : (t : Int) < s.st) :
    Tot (p_spec_TreeWay s (f : Int) (t : Int)) fun r => (r.2 = true → Wk s (tl s) (f : Int) (t : Int) r.1 ∧ r.1.length ≤ 64) ∧ (sP s f = sP s t → r.2 = true) := by
  have p1 := ok.p1; have p6 := ok.p6; have n9 := ok.n9
  have hv := surveyOk_iff.2 ok
  unfold p_spec_TreeWay
  rw [show (⟨s.st, s.legs⟩ : Survey) = s from rfl, l_specSurveyValid (by omega), hv]
  simp only [Option.bind_some, Bool.not_true, cond_false]
  rw [l_l1In, l_l1In, w64_i (x := s.st - 1) (by omega), decide_eq_true (show (0 : Int) ≤ (f : Int) by omega), decide_eq_true (show (f : Int) ≤ s.st - 1 by omega), decide_eq_true (show (0 : Int) ≤ (t : Int) by omega), decide_eq_true (show (t : Int) ≤ s.st - 1 by omega)]
  simp only [Bool.and_self, Bool.not_true, Option.bind_some, cond_false]
  rw [l_specTreeLegs (by omega), if_pos hv]
  simp only [Option.bind_some]
  have hfew := tl_few ok
  obtain ⟨d, D⟩ := dp_forest (n := (us s (tl s)).length) rfl tl_jok f
  have hu : (us s (tl s)).length = (tl s).length := by simp [us]
  have hB : 2 ^ (us s (tl s)).length ≤ 2 ^ 5 := Nat.pow_le_pow_right (by omega) (by omega)
  refine Tot.bind (l_find ok tl_at (by omega) D (by omega) (by omega) (fun w _ e => by rw [D.root] at e; omega) (fun w _ _ => by omega)) fun ⟨l, o⟩ h => Tot.ret ⟨h.1, fun e => h.2 (dp_asc D rfl (by rw [tl_parts]; exact e.symm))⟩
end Go.Proofs.YtpfijnklnljccaaDoor
