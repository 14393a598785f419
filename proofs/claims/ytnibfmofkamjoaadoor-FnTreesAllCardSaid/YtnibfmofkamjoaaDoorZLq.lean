/- All trees of a survey: both programs list the same; no condition but the sizes. -/
import Derived.Test.YtnibfmofkamjoaaDoorZLk
import Derived.Test.YtnibfmofkamjoaaDoorZQ
namespace Go.Proofs.YtnibfmofkamjoaaDoor
open Go
set_option linter.unusedVariables false
set_option linter.unusedSimpArgs false

theorem fdiv_pow {s k : Nat} (hk : k ≤ 62) : Int.fdiv (s : Int) (2 ^ (min (Int.toNat (k : Int)) IntKind.i64.bits)) = ((s / 2 ^ k : Nat) : Int) := by
  have hb : IntKind.i64.bits = 64 := by decide
  have e1 : min (Int.toNat (k : Int)) IntKind.i64.bits = k := by rw [hb]; omega
  have e2 : (2 : Int) ^ k = ((2 ^ k : Nat) : Int) := by rw [Int.natCast_pow]; rfl
  rw [e1, e2, Int.fdiv_eq_ediv_of_nonneg _ (Int.natCast_nonneg _), Int.natCast_ediv]
theorem tmod_has {s k : Nat} (hk : k ≤ 62) : (Int.tmod (Int.fdiv (s : Int) (2 ^ (min (Int.toNat (k : Int)) IntKind.i64.bits))) 2 == 1) = has s k := by
  rw [fdiv_pow hk, Int.tmod_eq_emod_of_nonneg (Int.natCast_nonneg _)]
  unfold has
  have : ((s / 2 ^ k : Nat) : Int) % 2 = ((s / 2 ^ k % 2 : Nat) : Int) := by omega
  rw [this]
  by_cases h : s / 2 ^ k % 2 = 1
  · rw [h]; rfl
  · rw [show s / 2 ^ k % 2 = 0 by omega]; rfl
theorem and_has {s k : Nat} (hk : k ≤ 62) (hs : s < 9223372036854775808) : (IntKind.i64.wrap (BitVec.ofInt IntKind.i64.bits (Int.fdiv (s : Int) (2 ^ (min (Int.toNat (k : Int)) IntKind.i64.bits))) &&& BitVec.ofInt IntKind.i64.bits 1).toNat == 1) = has s k := by
  rw [fdiv_pow hk]
  have hle : s / 2 ^ k ≤ s := Nat.div_le_self _ _
  unfold has
  generalize s / 2 ^ k = v at *
  have hb : IntKind.i64.bits = 64 := by decide
  have e1 : (BitVec.ofInt IntKind.i64.bits (v : Int) &&& BitVec.ofInt IntKind.i64.bits 1).toNat = v % 2 := by
    rw [BitVec.toNat_and, BitVec.toNat_ofInt, BitVec.toNat_ofInt, hb]
    have e1 : ((v : Int) % ((2 ^ 64 : Nat) : Int)).toNat = v := by omega
    have e2 : ((1 : Int) % ((2 ^ 64 : Nat) : Int)).toNat = 1 := by decide
    rw [e1, e2, Nat.and_one_is_mod]
  rw [e1]
  have e2 : IntKind.i64.wrap ((v % 2 : Nat) : Int) = ((v % 2 : Nat) : Int) := w64_in (by omega) (by omega)
  rw [e2]
  by_cases h : v % 2 = 1
  · rw [h]; rfl
  · rw [show v % 2 = 0 by omega]; rfl
def ixI (n s : Nat) : List Int := (ix n s).map fun k : Nat => (k : Int)
theorem ix_snoc {n s : Nat} : ix (n + 1) s = ix n s ++ (if has s n then [n] else []) := by
  unfold ix
  rw [List.range_succ, List.filter_append]
  congr 1
  cases h : has s n <;> simp [h]
theorem ixI_snoc {n s : Nat} : ixI (n + 1) s = ixI n s ++ (if has s n then [(n : Int)] else []) := by
  unfold ixI
  rw [ix_snoc, List.map_append]
  congr 1
  cases has s n <;> rfl
theorem ix_len {n s : Nat} : (ix n s).length ≤ n := by
  unfold ix; have := List.length_filter_le (has s) (List.range n); simpa using this
theorem ixI_len {n s : Nat} : (ixI n s).length ≤ n := by unfold ixI; rw [List.length_map]; exact ix_len
theorem has_big {n s k : Nat} (hs : s < 2 ^ n) (hk : n ≤ k) : has s k = false := by
  unfold has
  have h1 : 2 ^ n ≤ 2 ^ k := Nat.pow_le_pow_right (by omega) hk
  rw [Nat.div_eq_of_lt (by omega)]; rfl
theorem ix_more {n d s : Nat} (hs : s < 2 ^ n) : ixI (n + d) s = ixI n s := by
  induction d with
  | zero => rfl
  | succ d ih => rw [← Nat.add_assoc, ixI_snoc, ih, has_big hs (by omega)]; simp
theorem l_setIndices {n s : Nat} (hn : n ≤ 62) (hs : s < 2 ^ n) : p_impl_setIndices (s : Int) = some (ixI n s) := by
  unfold p_impl_setIndices
  have hs2 : s < 9223372036854775808 := by
    have : 2 ^ n ≤ 2 ^ 62 := Nat.pow_le_pow_right (by omega) hn
    omega
  rw [loop_to (B := p_impl_setIndices_L0 (s : Int)) (fun k => (ixI k s, (k : Int))) 63 (by simp [ixI, ix]) (e := ixI 63 s) (fun k hk => by
    simp only [p_impl_setIndices_L0]
    have := ixI_len (n := k) (s := s)
    rw [decide_eq_true (by omega), need_of (by omega), and_has (by omega) hs2, w64_succ (by omega), ixI_snoc]
    simp only [cond_true]
    cases has s k with
    | true => simp only [cond_true, if_true]; rw [need_of (by simp; omega)]
    | false => simp) (by
    simp only [p_impl_setIndices_L0]
    rw [decide_eq_false (by omega)]; rfl)]
  rw [show (63 : Nat) = n + (63 - n) by omega, ix_more hs]; rfl
theorem l_OnesCount {s : Nat} (hs : s < 512) : p_math_bits_OnesCount (IntKind.u64.wrap (s : Int)) = some ((ix 9 s).length : Int) := by
  have h : ∀ s : Nat, s < 512 → p_math_bits_OnesCount64 (IntKind.u64.wrap (s : Int)) = some ((ix 9 s).length : Int) := by
    unfold p_math_bits_OnesCount64 w64
    decide +kernel
  unfold p_math_bits_OnesCount
  rw [h s hs]; rfl

def lE (s : Survey) : List Ed := s.legs.map (eL c0)
theorem lE_len {s : Survey} : (lE s).length = s.legs.length := by simp [lE]
theorem us_ix {s : Survey} {t : Nat} : us s (ixI s.legs.length t) = pk (lE s) t := by
  rw [pk_ix, lE_len]
  unfold us ixI
  rw [List.map_map]
  apply List.map_congr_left
  intro k hk
  unfold ix at hk
  rw [List.mem_filter, List.mem_range] at hk
  show eL c0 (gx s.legs (((k : Nat) : Int)).toNat) = gx (lE s) k
  rw [Int.toNat_natCast]; unfold lE; rw [gx_of_map hk.1]
theorem pk_map {α β : Type} {f : α → β} : ∀ {l : List α} {t : Nat}, pk (l.map f) t = (pk l t).map f
  | [], _ => rfl
  | x :: l, t => by
    simp only [List.map_cons, pk]
    split
    · rw [pk_map (l := l), List.map_cons]
    · rw [pk_map (l := l)]
theorem pk_gx {s : Survey} {t : Nat} : pk s.legs t = (ix s.legs.length t).map (gx s.legs) := by rw [pk_ix]; rfl
theorem l_l2Chosen {s : Survey} {t : Nat} (hl : s.legs.length ≤ 62) : p_spec_l2Chosen s (t : Int) = some (⟨s.st, pk s.legs t⟩, ixI s.legs.length t) := by
  unfold p_spec_l2Chosen
  rw [loop_to (B := p_spec_l2Chosen_L0 s (t : Int)) (fun k => (ixI k t, (k : Int), (ix k t).map (gx s.legs))) s.legs.length (by simp [ixI, ix]) (e := (ixI s.legs.length t, (ix s.legs.length t).map (gx s.legs))) (fun k hk => by
    simp only [p_spec_l2Chosen_L0]
    have h1 := ixI_len (n := k) (s := t)
    have h2 := ix_len (n := k) (s := t)
    rw [decide_eq_true (by omega), need_of (by omega), tmod_has (by omega), w64_succ (by omega), ixI_snoc, ix_snoc]
    simp only [cond_true]
    cases has t k with
    | true =>
      simp only [cond_true, if_true, List.map_append, List.map_cons, List.map_nil]
      rw [idx_at hk, need_of (by simp; omega), need_of (by simp; omega)]
    | false => simp) (by
    simp only [p_spec_l2Chosen_L0]
    rw [decide_eq_false (by omega)]; rfl)]
  simp only [Option.bind_some]
  rw [pk_gx]

def mS (s : Survey) : Nat := s.st.toNat - 1
theorem sv_in {s : Survey} (ok : SurveyOk s) : Inm (mS s) (lE s) := fun e he => by
  obtain ⟨k, hk, rfl⟩ := mem_gx he
  rw [lE_len] at hk
  have a := ok.lg k hk
  have := a.f0; have := a.f1; have := a.t0; have := a.t1; have := ok.p1
  unfold lE; rw [gx_of_map hk]; unfold eL mS; simp only; omega
/-- A set of legs is a tree. -/
def tset (s : Survey) (t : Nat) : Bool := isT (mS s) pid (lE s) t
def tsets (s : Survey) : List Nat := (List.range (2 ^ s.legs.length)).filter (tset s)
/-- All trees. -/
def TA (s : Survey) : List (List Int) := if surveyOk s then (tsets s).map (ixI s.legs.length) else []
theorem jok_take : ∀ {E : List Ed} {P : Pt}, jok P E = (List.range E.length).all fun x => fj P (E.take x) (gx E x).a != fj P (E.take x) (gx E x).b
  | [], P => rfl
  | e :: E, P => by
    unfold jok
    rw [jok_take (E := E), List.length_cons, List.range_succ_eq_map, List.all_cons, List.all_map]
    rfl
theorem us_gx {s : Survey} {tree : List Int} {k : Nat} (h : k < tree.length) : gx (us s tree) k = eL c0 (gx s.legs (gx tree k).toNat) := by unfold us; rw [gx_of_map h]
theorem us_len {s : Survey} {tree : List Int} : (us s tree).length = tree.length := by simp [us]
/-- What is asked of each index of a tree, and of the join at it. -/
def tq (s : Survey) (tree : List Int) (x : Nat) : Bool := (decide (0 ≤ gx tree x) && decide (gx tree x < s.legs.length)) && ((decide (x = 0) || decide (gx tree (x - 1) < gx tree x)) && (fj pid ((us s tree).take x) (gx (us s tree) x).a != fj pid ((us s tree).take x) (gx (us s tree) x).b))
def isTreeB (s : Survey) (tree : List Int) : Bool := decide ((tree.length : Int) = s.st - 1) && (List.range tree.length).all (tq s tree)
theorem l_isTree {s : Survey} {tree : List Int} (ok : SurveyOk s) (hl : tree.length ≤ 4611686018427387904) : p_impl_isTree s tree = some (isTreeB s tree) := by
  unfold p_impl_isTree isTreeB
  have p1 := ok.p1; have p6 := ok.p6; have n9 := ok.n9
  rw [w64_in (by omega) (by omega), bne_dec]
  by_cases hlen : (tree.length : Int) = s.st - 1
  · rw [decide_eq_true hlen]
    obtain ⟨n, hn⟩ : ∃ n : Nat, s.st = (n : Int) := ⟨s.st.toNat, by omega⟩
    simp only [Bool.not_true, cond_false, Bool.true_and]
    rw [hn, l_ownParts (by omega)]
    simp only [Option.bind_some]
    rw [loop_allS (B := p_impl_isTree_L0 s tree) (fun k => ((k : Int), pl n (fj pid ((us s tree).take k)))) (tq s tree) tree.length (.inl ()) (.inr false) (by rfl) (fun k hk hq => by
      simp only [p_impl_isTree_L0]
      unfold tq
      rw [decide_eq_true (by omega), idx_at hk, l_isIndex, w64_succ (by omega)]
      simp only [cond_true, Option.bind_some]
      by_cases hin : 0 ≤ gx tree k ∧ gx tree k < s.legs.length
      · rw [decide_eq_true hin.1, decide_eq_true hin.2]
        simp only [Bool.and_self, Bool.not_true, cond_false, Bool.true_and]
        have hasc : (cond (decide (0 < (k : Int))) (idx tree.length (w64 ((k : Int) - 1)) fun j28 => some (decide (gx tree k ≤ gx tree j28))) (some false)) = (some (!(decide (k = 0) || decide (gx tree (k - 1) < gx tree k))) : O Bool) := by
          cases k with
          | zero => rfl
          | succ k =>
            have e1 : w64 (((k + 1 : Nat) : Int) - 1) = (k : Int) := by rw [w64_in (by omega) (by omega)]; omega
            rw [decide_eq_true (by omega), e1, idx_at (by omega), decide_eq_false (p := k + 1 = 0) (by omega)]
            simp only [cond_true, Bool.false_or, Nat.add_sub_cancel]
            congr 1
            exact not_dec (by omega)
        rw [hasc]
        simp only [Option.bind_some]
        cases hc : (decide (k = 0) || decide (gx tree (k - 1) < gx tree k)) with
        | false => rfl
        | true =>
          simp only [Bool.not_true, cond_false, Bool.true_and]
          obtain ⟨j, hj⟩ := Int.eq_ofNat_of_zero_le hin.1
          have hjl : j < s.legs.length := by omega
          have A := ok.lg j hjl
          obtain ⟨a, ha⟩ := Int.eq_ofNat_of_zero_le A.f0
          obtain ⟨b, hb⟩ := Int.eq_ofNat_of_zero_le A.t0
          have f1 := A.f1; have t1 := A.t1
          have ge : gx (us s tree) k = ⟨a, b, 0, 1⟩ := by
            rw [us_gx hk, hj]; simp [eL, c0, ha, hb]
          rw [hj, idx_at hjl, ha, hb, l_joinParts (by omega) (by omega) (by omega), ge, fj_take (by rw [us_len]; exact hk), ge, jP_jab]
          simp only [Option.bind_some]
          cases (fj pid ((us s tree).take k) a != fj pid ((us s tree).take k) b) <;> rfl
      · have : (decide (0 ≤ gx tree k) && decide (gx tree k < (s.legs.length : Int))) = false := by rw [and_dec, decide_eq_false hin]
        rw [this]; rfl) (fun _ => by
      simp only [p_impl_isTree_L0]
      rw [decide_eq_false (by omega)]; rfl)]
    cases (List.range tree.length).all (tq s tree) <;> rfl
  · rw [decide_eq_false hlen]; rfl
theorem ixI_mem {n t k : Nat} (hk : k < (ixI n t).length) : ∃ j : Nat, gx (ixI n t) k = (j : Int) ∧ j < n ∧ has t j = true := by
  unfold ixI at hk ⊢
  rw [List.length_map] at hk
  rw [gx_of_map hk]
  refine ⟨gx (ix n t) k, rfl, ?_⟩
  have := gx_mem hk
  unfold ix at this
  rw [List.mem_filter, List.mem_range] at this
  exact this
theorem ix_asc {n t : Nat} : ∀ k, k + 1 < (ix n t).length → gx (ix n t) k < gx (ix n t) (k + 1) := by
  have hp : (ix n t).Pairwise (· < ·) := List.Pairwise.filter _ List.pairwise_lt_range
  intro k hk
  rw [gx_eq (by omega), gx_eq hk]
  exact List.pairwise_iff_getElem.1 hp k (k + 1) (by omega) hk (by omega)
theorem all_same {α : Type} {p q : α → Bool} : ∀ {l : List α}, (∀ x, x ∈ l → p x = q x) → l.all p = l.all q
  | [], _ => rfl
  | x :: l, h => by simp only [List.all_cons]; rw [h x List.mem_cons_self, all_same (fun y hy => h y (List.mem_cons_of_mem _ hy))]
theorem tree_ix {s : Survey} {t : Nat} (ok : SurveyOk s) : isTreeB s (ixI s.legs.length t) = tset s t := by
  have hin := sv_in ok
  have p1 := ok.p1
  have hpk : Inm (mS s) (pk (lE s) t) := fun e he => hin e (pk_mem he)
  unfold isTreeB tset
  rw [isT_pk]
  have e1 : (List.range (ixI s.legs.length t).length).all (tq s (ixI s.legs.length t)) = jok pid (pk (lE s) t) := by
    rw [jok_take, ← us_ix, us_len]
    refine all_same fun x hx => ?_
    rw [List.mem_range] at hx
    unfold tq
    obtain ⟨j, hj, hjl, _⟩ := ixI_mem hx
    have c1 : (decide (0 ≤ gx (ixI s.legs.length t) x) && decide (gx (ixI s.legs.length t) x < (s.legs.length : Int))) = true := by
      rw [hj, decide_eq_true (by omega), decide_eq_true (by omega)]; rfl
    have c2 : (decide (x = 0) || decide (gx (ixI s.legs.length t) (x - 1) < gx (ixI s.legs.length t) x)) = true := by
      cases x with
      | zero => rfl
      | succ x =>
        have hx' : x + 1 < (ix s.legs.length t).length := by unfold ixI at hx; simpa using hx
        have := ix_asc x hx'
        have : gx (ixI s.legs.length t) x < gx (ixI s.legs.length t) (x + 1) := by
          unfold ixI; rw [gx_of_map (by omega), gx_of_map hx']; omega
        rw [Nat.add_sub_cancel, decide_eq_true this]; simp
    rw [c1, c2, Bool.true_and, Bool.true_and]
  rw [e1]
  have hlen : (ixI s.legs.length t).length = (pk (lE s) t).length := by rw [← us_ix, us_len]
  have h := tree_iff2 hpk
  rw [hlen]
  have hd : decide (((pk (lE s) t).length : Int) = s.st - 1) = decide ((pk (lE s) t).length = mS s) := by rw [decide_eq_decide]; unfold mS; omega
  rw [hd]
  cases hj : jok pid (pk (lE s) t) with
  | false => simp
  | true =>
    rw [hj] at h
    simp only [true_and, and_true] at h
    rw [Bool.and_true, Bool.true_and]
    cases ho : one (mS s) (fj pid (pk (lE s) t)) with
    | true => rw [ho] at h; exact decide_eq_true (h.1 rfl)
    | false => rw [ho] at h; exact decide_eq_false (fun hh => by cases h.2 hh)
theorem tree_len {s : Survey} {t : Nat} (ok : SurveyOk s) (h : tset s t = true) : (ixI s.legs.length t).length = mS s := by
  rw [← tree_ix ok] at h
  unfold isTreeB at h
  rw [Bool.and_eq_true, decide_eq_true_eq] at h
  have := ok.p1
  unfold mS; omega
theorem filter_snoc {α : Type} {p : Nat → Bool} {f : Nat → α} {x : Nat} : ((List.range (x + 1)).filter p).map f = ((List.range x).filter p).map f ++ (if p x then [f x] else []) := by
  rw [List.range_succ, List.filter_append, List.map_append]
  congr 1
  cases h : p x <;> simp [h]
theorem filter_len {p : Nat → Bool} {x : Nat} : ((List.range x).filter p).length ≤ x := by
  have := List.length_filter_le p (List.range x); simpa using this
theorem two_pow {n : Nat} (h : n ≤ 9) : w64 (1 * 2 ^ (min (Int.toNat (n : Int)) IntKind.i64.bits)) = ((2 ^ n : Nat) : Int) ∧ 2 ^ n ≤ 512 := by
  have : ∀ n : Nat, n < 10 → w64 (1 * 2 ^ (min (Int.toNat (n : Int)) IntKind.i64.bits)) = ((2 ^ n : Nat) : Int) ∧ 2 ^ n ≤ 512 := by unfold w64; decide
  exact this n (by omega)
theorem ix9 {n t : Nat} (hn : n ≤ 9) (ht : t < 2 ^ n) : (ix 9 t).length = (ixI n t).length := by
  have : ixI 9 t = ixI n t := by rw [show 9 = n + (9 - n) by omega]; exact ix_more ht
  rw [← this]; simp [ixI]
theorem l_implTreesAll {s : Survey} (h : s.legs.length ≤ 4611686018427387904) : p_impl_TreesAll s = some (TA s) := by
  unfold p_impl_TreesAll TA
  rw [show (⟨s.st, s.legs⟩ : Survey) = s from rfl, l_implSurveyValid h]
  cases hv : surveyOk s with
  | false => rfl
  | true =>
    have ok := surveyOk_iff.1 hv
    have p1 := ok.p1; have p6 := ok.p6; have n9 := ok.n9
    simp only [Option.bind_some, Bool.not_true, cond_false, if_true]
    rw [need_of (by omega)]
    have h2 := two_pow n9
    rw [loop_to (B := p_impl_TreesAll_L0 s) (fun x => (((List.range x).filter (tset s)).map (ixI s.legs.length), (x : Int))) (2 ^ s.legs.length) (by rfl) (e := (tsets s).map (ixI s.legs.length)) (fun x hx => by
      simp only [p_impl_TreesAll_L0]
      have hfl := filter_len (p := tset s) (x := x)
      rw [h2.1, decide_eq_true (by omega), l_OnesCount (by omega), w64_succ (by omega), w64_in (x := s.st - 1) (by omega) (by omega), ix9 n9 hx, filter_snoc]
      simp only [cond_true, Option.bind_some, bne_dec]
      by_cases hlen : ((ixI s.legs.length x).length : Int) = s.st - 1
      · rw [decide_eq_true hlen]
        simp only [Bool.not_true, cond_false]
        rw [l_setIndices (by omega) hx, Option.bind_some, show (⟨s.st, s.legs⟩ : Survey) = s from rfl, l_isTree ok (by have := ixI_len (n := s.legs.length) (s := x); omega), tree_ix ok]
        simp only [Option.bind_some]
        cases tset s x with
        | true => simp only [cond_true, if_true]; rw [need_of (by rw [List.length_map]; omega)]
        | false => simp
      · have : tset s x = false := by
          rw [← tree_ix ok]; unfold isTreeB; rw [decide_eq_false hlen]; rfl
        rw [decide_eq_false hlen, this]; simp) (by
      simp only [p_impl_TreesAll_L0]
      rw [h2.1, decide_eq_false (by omega)]; rfl)]
    rfl
theorem chosen_ok {s : Survey} (ok : SurveyOk s) {t : Nat} : SurveyOk ⟨s.st, pk s.legs t⟩ := by
  have hl : (pk s.legs t).length ≤ s.legs.length := by rw [pk_gx, List.length_map]; exact ix_len
  refine ⟨ok.p1, ok.p6, by have := ok.n9; simp only; omega, fun k hk => ?_⟩
  have hm := pk_mem (gx_mem hk)
  obtain ⟨j, hj, e⟩ := mem_gx hm
  simp only
  rw [← e]; exact ok.lg j hj
theorem chosen_tree {s : Survey} (ok : SurveyOk s) {t : Nat} : (decide (((ixI s.legs.length t).length : Int) = s.st - 1) && (pm ⟨s.st, pk s.legs t⟩ == 1)) = tset s t := by
  have hin := sv_in ok
  have p1 := ok.p1
  have hpk : Inm (mS s) (pk (lE s) t) := fun e he => hin e (pk_mem he)
  rw [pm_one (chosen_ok ok)]
  unfold sP tset
  rw [isT_pk]
  have e1 : (pk s.legs t).map (eL c0) = pk (lE s) t := by unfold lE; rw [pk_map]
  simp only
  rw [e1]
  have hlen : (ixI s.legs.length t).length = (pk (lE s) t).length := by rw [← us_ix, us_len]
  have h := tree_iff hpk
  rw [hlen]
  have hd : decide (((pk (lE s) t).length : Int) = s.st - 1) = decide ((pk (lE s) t).length = mS s) := by rw [decide_eq_decide]; unfold mS; omega
  rw [hd]
  show (decide _ && one (mS s) _) = _
  cases ho : one (mS s) (fj pid (pk (lE s) t)) with
  | false => simp
  | true =>
    rw [ho] at h
    simp only [and_true] at h
    rw [Bool.and_true, Bool.and_true]
    cases hj : jok pid (pk (lE s) t) with
    | true => rw [hj] at h; exact decide_eq_true (h.1 rfl)
    | false => rw [hj] at h; exact decide_eq_false (fun hh => by cases h.2 hh)
theorem l_specTreesAll {s : Survey} (h : s.legs.length ≤ 4611686018427387904) : p_spec_TreesAll s = some (TA s) := by
  unfold p_spec_TreesAll TA
  cases hv : surveyOk s with
  | false =>
    rw [loop_out (e := []) (by
      simp only [p_spec_TreesAll_L0]
      rw [show (⟨s.st, s.legs⟩ : Survey) = s from rfl, l_specSurveyValid h, hv, need_of (by omega)]
      cases decide (0 < w64 (1 * 2 ^ (min (Int.toNat ((s.legs.length : Nat) : Int)) IntKind.i64.bits))) <;> rfl)]
    rfl
  | true =>
    have ok := surveyOk_iff.1 hv
    have p1 := ok.p1; have p6 := ok.p6; have n9 := ok.n9
    have h2 := two_pow n9
    rw [loop_to (B := p_spec_TreesAll_L0 s) (fun x => (((List.range x).filter (tset s)).map (ixI s.legs.length), (x : Int))) (2 ^ s.legs.length) (by rfl) (e := (tsets s).map (ixI s.legs.length)) (fun x hx => by
      simp only [p_spec_TreesAll_L0]
      have hfl := filter_len (p := tset s) (x := x)
      rw [show (⟨s.st, s.legs⟩ : Survey) = s from rfl, l_specSurveyValid h, hv, need_of (by omega), h2.1, decide_eq_true (by omega), l_l2Chosen (by omega), w64_succ (by omega), w64_in (x := s.st - 1) (by omega) (by omega), filter_snoc]
      simp only [cond_true, Option.bind_some, beq_dec]
      have hcl : (pk s.legs x).length ≤ 4611686018427387904 := by
        have : (pk s.legs x).length ≤ s.legs.length := by rw [pk_gx, List.length_map]; exact ix_len
        omega
      rw [l_specPartsMany (s := ⟨s.st, pk s.legs x⟩) hcl]
      have := chosen_tree ok (t := x)
      cases hd : decide (((ixI s.legs.length x).length : Int) = s.st - 1) with
      | false =>
        rw [hd, Bool.false_and] at this
        rw [← this]; simp
      | true =>
        rw [hd, Bool.true_and, beq_dec] at this
        simp only [cond_true, Option.bind_some]
        rw [this]
        cases tset s x with
        | true => simp only [cond_true, if_true]; rw [need_of (by rw [List.length_map]; omega)]
        | false => simp) (by
      simp only [p_spec_TreesAll_L0]
      rw [show (⟨s.st, s.legs⟩ : Survey) = s from rfl, need_of (by omega), h2.1, decide_eq_false (by omega)]; rfl)]
    rfl

theorem ixI_has {n t k : Nat} (hk : k < n) : decide ((k : Int) ∈ ixI n t) = has t k := by
  unfold ixI ix
  cases h : has t k with
  | true =>
    apply decide_eq_true
    rw [List.mem_map]
    exact ⟨k, by rw [List.mem_filter, List.mem_range]; exact ⟨hk, h⟩, rfl⟩
  | false =>
    apply decide_eq_false
    rw [List.mem_map]
    rintro ⟨j, hj, e⟩
    rw [List.mem_filter] at hj
    have : j = k := by omega
    rw [this, h] at hj; cases hj.2
end Go.Proofs.YtnibfmofkamjoaaDoor
