/- The places that a tree tells; sets of legs by their bits; no condition but the sizes. -/
import Derived.Test.YtkhjbfngafebeaaZLp
import Derived.Test.YtkhjbfngafebeaaZLq
namespace Go.Proofs.Ytkhjbfngafebeaa
open Go
set_option linter.unusedVariables false
set_option linter.unusedSimpArgs false

theorem bits_of : ∀ (n : Nat) (p : Nat → Bool), ∃ t, t < 2 ^ n ∧ ∀ k, k < n → has t k = p k
  | 0, p => ⟨0, by simp, fun k h => by omega⟩
  | n + 1, p => by
    obtain ⟨t, h1, h2⟩ := bits_of n (fun k => p (k + 1))
    refine ⟨(if p 0 then 1 else 0) + 2 * t, ?_, fun k hk => ?_⟩
    · rw [Nat.pow_succ]; split <;> omega
    · cases k with
      | zero =>
        rw [has_zero]
        cases p 0
        · simp
        · simp only [if_true]
          rw [show (1 + 2 * t) % 2 = 1 by omega]; rfl
      | succ k =>
        rw [has_succ, ← h2 k (by omega)]
        congr 1; split <;> omega
theorem asc_ext : ∀ {l m : List Int}, l.Pairwise (· < ·) → m.Pairwise (· < ·) → (∀ x, x ∈ l ↔ x ∈ m) → l = m
  | [], [], _, _, _ => rfl
  | [], y :: m, _, _, h => absurd ((h y).2 (by simp)) (by simp)
  | x :: l, [], _, _, h => absurd ((h x).1 (by simp)) (by simp)
  | x :: l, y :: m, hl, hm, h => by
    rw [List.pairwise_cons] at hl hm
    have e : x = y := by
      have h1 := (h x).1 (by simp)
      have h2 := (h y).2 (by simp)
      rcases List.mem_cons.1 h1 with h1 | h1
      · exact h1
      rcases List.mem_cons.1 h2 with h2 | h2
      · exact h2.symm
      · have := hl.1 y h2; have := hm.1 x h1; omega
    subst e
    rw [asc_ext hl.2 hm.2 (fun z => ?_)]
    constructor
    · intro hz
      have := hl.1 z hz
      rcases List.mem_cons.1 ((h z).1 (List.mem_cons_of_mem _ hz)) with e | e
      · omega
      · exact e
    · intro hz
      have := hm.1 z hz
      rcases List.mem_cons.1 ((h z).2 (List.mem_cons_of_mem _ hz)) with e | e
      · omega
      · exact e
theorem asc_pw {l : List Int} (h : ∀ k, k + 1 < l.length → gx l k < gx l (k + 1)) : l.Pairwise (· < ·) := by
  have key : ∀ d i, i + d + 1 < l.length → gx l i < gx l (i + d + 1) := by
    intro d
    induction d with
    | zero => intro i hi; exact h i hi
    | succ d ih =>
      intro i hi
      have h1 := ih i (by omega)
      have h2 := h (i + d + 1) (by omega)
      rw [show i + (d + 1) + 1 = i + d + 1 + 1 by omega]; omega
  rw [List.pairwise_iff_getElem]
  intro i j hi hj hij
  have := key (j - i - 1) i (by omega)
  rw [show i + (j - i - 1) + 1 = j by omega, gx_eq hi, gx_eq hj] at this
  exact this
theorem ixI_pw {n t : Nat} : (ixI n t).Pairwise (· < ·) := by
  unfold ixI ix
  rw [List.pairwise_map]
  exact (List.pairwise_lt_range.filter _).imp fun h => by omega
theorem ixI_in {n t : Nat} {x : Int} : x ∈ ixI n t ↔ ∃ k : Nat, x = (k : Int) ∧ k < n ∧ has t k = true := by
  unfold ixI ix
  rw [List.mem_map]
  constructor
  · rintro ⟨k, hk, rfl⟩
    rw [List.mem_filter, List.mem_range] at hk
    exact ⟨k, rfl, hk.1, hk.2⟩
  · rintro ⟨k, rfl, h1, h2⟩
    exact ⟨k, by rw [List.mem_filter, List.mem_range]; exact ⟨h1, h2⟩, rfl⟩
/-- A list that is accepted as a tree is that of a set. -/
theorem tree_set {s : Survey} {tree : List Int} (ok : SurveyOk s) (h : isTreeB s tree = true) : ∃ t, t < 2 ^ s.legs.length ∧ tset s t = true ∧ tree = ixI s.legs.length t := by
  have h0 := h
  unfold isTreeB at h
  rw [Bool.and_eq_true, List.all_eq_true] at h
  obtain ⟨-, h2⟩ := h
  have h3 : ∀ x, x < tree.length → (0 ≤ gx tree x ∧ gx tree x < s.legs.length) ∧ (x = 0 ∨ gx tree (x - 1) < gx tree x) := fun x hx => by
    have := h2 x (List.mem_range.2 hx)
    unfold tq at this
    simp only [Bool.and_eq_true, Bool.or_eq_true, decide_eq_true_eq] at this
    exact ⟨this.1, this.2.1⟩
  obtain ⟨t, ht, hb⟩ := bits_of s.legs.length (fun k => decide ((k : Int) ∈ tree))
  have e : tree = ixI s.legs.length t := by
    refine asc_ext (asc_pw fun k hk => ?_) ixI_pw fun x => ?_
    · rcases (h3 (k + 1) hk).2 with e | e
      · omega
      · exact e
    · rw [ixI_in]
      constructor
      · intro hx
        obtain ⟨k, hk, rfl⟩ := mem_gx hx
        obtain ⟨a, b⟩ := (h3 k hk).1
        obtain ⟨j, hj⟩ := Int.eq_ofNat_of_zero_le a
        refine ⟨j, hj, by omega, ?_⟩
        rw [hb j (by omega), decide_eq_true_eq, ← hj]; exact gx_mem hk
      · rintro ⟨k, rfl, h1, h4⟩
        rw [hb k h1, decide_eq_true_eq] at h4; exact h4
  refine ⟨t, ht, ?_, e⟩
  rw [e, tree_ix ok] at h0
  exact h0
theorem tree_mem {s : Survey} {tree : List Int} (ok : SurveyOk s) : isTreeB s tree = true ↔ tree ∈ TA s := by
  unfold TA
  rw [if_pos (surveyOk_iff.2 ok)]
  unfold tsets
  rw [List.mem_map]
  constructor
  · intro h
    obtain ⟨t, h1, h2, h3⟩ := tree_set ok h
    exact ⟨t, by rw [List.mem_filter, List.mem_range]; exact ⟨h1, h2⟩, h3.symm⟩
  · rintro ⟨t, h, rfl⟩
    rw [List.mem_filter, List.mem_range] at h
    rw [tree_ix ok]; exact h.2

def sub (s : Survey) (t : Nat) : Survey := ⟨s.st, pk s.legs t⟩
theorem sub_lg {s : Survey} {t : Nat} : lg (sub s t) = pk (lE s) t := pk_map.symm
theorem sub_tree {s : Survey} {t : Nat} (h : tset s t = true) : jok pid (lg (sub s t)) = true ∧ one (mS s) (fj pid (lg (sub s t))) = true := by
  unfold tset at h
  rw [isT_pk, Bool.and_eq_true] at h
  rw [sub_lg]; exact h
theorem TL_jok {s : Survey} (h : jok pid (lg s) = true) : ∀ {k : Nat}, k ≤ s.legs.length → TL s k = row1 k fun j => (j : Int)
  | 0, _ => rfl
  | k + 1, hk => by
    have ll : (lg s).length = s.legs.length := by simp [lg]
    rw [jok_take, List.all_eq_true] at h
    have hj : jn s k = true := by
      have := h k (List.mem_range.2 (by omega))
      unfold jn
      rw [lg_gx (by omega)] at this
      exact this
    unfold TL
    rw [if_pos hj, TL_jok (by rw [jok_take, List.all_eq_true]; exact h) (by omega)]
    unfold row1
    rw [List.range_succ, List.map_append]; rfl
theorem tl_sub {s : Survey} {c : Leg → Int} (h : jok pid (lg s) = true) : ((tl s).map fun i => eL c (gx s.legs i.toNat)) = s.legs.map (eL c) := by
  unfold tl
  rw [TL_jok h (Nat.le_refl _)]
  apply gx_ext (by simp [row1_len])
  intro k hk
  simp only [List.length_map, row1_len] at hk
  rw [gx_of_map (by rw [row1_len]; exact hk), row1_gx hk, gx_of_map hk]
  simp
/-- The places that a tree tells, in one direction. -/
def yT (s : Survey) (c : Leg → Int) (tree : List Int) : Fm := ojs pid z0 (tree.map fun i => eL c (gx s.legs i.toNat))
theorem tree_pk {s : Survey} {c : Leg → Int} {t : Nat} : ((ixI s.legs.length t).map fun i => eL c (gx s.legs i.toNat)) = (pk s.legs t).map (eL c) := by
  rw [pk_gx]; unfold ixI
  rw [List.map_map, List.map_map]
  apply List.map_congr_left
  intro a _; simp
theorem yT_oT {s : Survey} {c : Leg → Int} {t : Nat} : yT s c (ixI s.legs.length t) = oT pid z0 (s.legs.map (eL c)) t := by
  unfold yT
  rw [oT_pk, tree_pk, pk_map]
theorem jok_c {s : Survey} {c : Leg → Int} {t : Nat} (h : tset s t = true) : jok pid ((pk s.legs t).map (eL c)) = true ∧ one (mS s) (fj pid ((pk s.legs t).map (eL c))) = true := by
  obtain ⟨h1, h2⟩ := sub_tree h
  unfold lg sub at h1 h2
  rw [jok_ab (eL_ab (c := c) (d := c0)), fj_ab (eL_ab (c := c) (d := c0))]
  exact ⟨h1, h2⟩
theorem yT_zero {s : Survey} {c : Leg → Int} {t : Nat} (h : tset s t = true) : yT s c (ixI s.legs.length t) 0 = 0 := by
  unfold yT
  rw [tree_pk]
  exact ojs_zero pid_good (jok_c h).1 rfl
/-- A leg's way in one direction is small. -/
def Dir0 (c : Leg → Int) : Prop := ∀ p g, LegOk p g → -99 ≤ c g ∧ c g ≤ 99
theorem dir0_e : Dir0 Leg.e := fun _ _ h => ⟨h.e0, h.e1⟩
theorem dir0_n : Dir0 Leg.n := fun _ _ h => ⟨h.n0, h.n1⟩
theorem dir0_u : Dir0 Leg.u := fun _ _ h => ⟨h.u0, h.u1⟩
theorem yT_bd {s : Survey} {c : Leg → Int} {t v : Nat} (ok : SurveyOk s) (hc : Dir0 c) (h : tset s t = true) (hv : v ≤ mS s) : -495 ≤ yT s c (ixI s.legs.length t) v ∧ yT s c (ixI s.legs.length t) v ≤ 495 := by
  have p6 := ok.p6
  have h5 : mS s ≤ 5 := by unfold mS; omega
  obtain ⟨j1, j2⟩ := jok_c (c := c) h
  have lo : ∀ g ∈ pk s.legs t, LegOk s.st g := fun g hg => by
    obtain ⟨k, hk, rfl⟩ := mem_gx (pk_mem hg)
    exact ok.lg k hk
  have := place_bd (m := mS s) (E := (pk s.legs t).map (eL c)) (fun e he => by
    obtain ⟨g, hg, rfl⟩ := List.mem_map.1 he
    have a := lo g hg
    have a0 := a.f0; have a1 := a.f1; have a2 := a.t0; have a3 := a.t1
    unfold mS
    refine ⟨?_, ?_⟩ <;> simp only [eL] <;> omega) (fun e he => by
    obtain ⟨g, hg, rfl⟩ := List.mem_map.1 he
    exact hc _ _ (lo g hg)) j1 j2 v hv
  unfold yT
  rw [tree_pk]
  omega
/-- The fix that a tree tells. -/
def tfW (s : Survey) (tree : List Int) : List Way := (List.range (mS s + 1)).map fun v => ⟨yT s Leg.e tree v, yT s Leg.n tree v, yT s Leg.u tree v⟩
theorem tfW_len {s : Survey} {tree : List Int} : (tfW s tree).length = mS s + 1 := by simp [tfW]
theorem tfW_gx {s : Survey} {tree : List Int} {v : Nat} (h : v < mS s + 1) : gx (tfW s tree) v = ⟨yT s Leg.e tree v, yT s Leg.n tree v, yT s Leg.u tree v⟩ := by
  unfold tfW; rw [gx_of_map (by simpa using h), gx_range h]
def tfix (s : Survey) (tree : List Int) : Fix × Bool := if surveyOk s && isTreeB s tree then (⟨1, tfW s tree⟩, true) else (⟨0, []⟩, false)
theorem sub_yc {s : Survey} {c : Leg → Int} {t : Nat} (h : tset s t = true) : yc (sub s t) c = yT s c (ixI s.legs.length t) := by
  unfold yc yT
  rw [tl_sub (sub_tree h).1, tree_pk]; rfl
theorem sub_place {s : Survey} {t v : Nat} (ok : SurveyOk s) (h : tset s t = true) (hv : v ≤ mS s) : tpl (sub s t) (v : Int) = (gx (tfW s (ixI s.legs.length t)) v, true) := by
  have p1 := ok.p1; have p6 := ok.p6
  have ok2 : SurveyOk (sub s t) := chosen_ok ok
  unfold tpl
  have hi : inSt (sub s t) (v : Int) = true := by
    unfold inSt mS at *
    rw [Bool.and_eq_true, decide_eq_true_eq, decide_eq_true_eq]
    exact ⟨by omega, by show (v : Int) < s.st; omega⟩
  rw [surveyOk_iff.2 ok2, hi, tfW_gx (by omega)]
  simp only [Bool.and_self, if_true]
  unfold plW plc
  have h0 : sP (sub s t) v = 0 := one_iff.1 (sub_tree h).2 v hv
  simp only [Int.toNat_natCast]
  rw [h0, sub_yc h, sub_yc h, sub_yc h, yT_zero h, yT_zero h, yT_zero h]
  have b1 := yT_bd ok dir0_e h hv
  have b2 := yT_bd ok dir0_n h hv
  have b3 := yT_bd ok dir0_u h hv
  rw [w64_i (by omega), w64_i (by omega), w64_i (by omega), Int.sub_zero, Int.sub_zero, Int.sub_zero]
end Go.Proofs.Ytkhjbfngafebeaa
