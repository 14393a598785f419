/- The matrix of a mine: both programs compute the same; no condition but the sizes. -/
import Derived.Test.YtkedammjdldloaaDoorLc
import Derived.Test.YtkedammjdldloaaDoorQbw
namespace Go.Proofs.YtkedammjdldloaaDoor
open Go
set_option linter.unusedVariables false
set_option linter.unusedSimpArgs false

theorem l_addLink {n : Nat} {g : Nat → Nat → Int} {f t w : Int} (hf : 0 ≤ f ∧ f ≤ (n : Int)) (ht : 0 ≤ t ∧ t ≤ (n : Int)) (hne : f ≠ t) (hw : -1000000 ≤ w ∧ w ≤ 1000000) (hn : n ≤ 1000) (hg : ∀ i j, -1000000000 ≤ g i j ∧ g i j ≤ 1000000000) :
    p_impl_addLink (tab n g) f t w = some (tab n (fun i j => g i j + lk ⟨f, t, w⟩ i j)) := by
  have key1 : ∀ (h : Nat → Nat → Int) (x : Int) (i : Nat), x = (i : Int) + 1 → i < n → -1000000000 ≤ h i i ∧ h i i ≤ 1000000000 →
      (idx n (w64 (x - 1)) fun a => idx ((gx (tab n h) a).length) (w64 (x - 1)) fun b => some ((tab n h).set a ((gx (tab n h) a).set b (w64 ((gx (gx (tab n h) a) b) + w))))) = some (tab n (fun a b => if a = i ∧ b = i then h i i + w else h a b)) := by
    intro h x i hx hi hb
    have e : w64 (x - 1) = (i : Int) := by rw [w64_in (by omega) (by omega)]; omega
    rw [e, idx_at hi, idx_at (by rw [tab_gx hi, row1_len]; exact hi), tab_set hi hi, tab_gx hi, row1_gx hi, w64_in (by omega) (by omega)]
  have keym : ∀ (h : Nat → Nat → Int) (x y : Int) (i j : Nat), x = (i : Int) + 1 → y = (j : Int) + 1 → i < n → j < n → i ≠ j → -1000000000 ≤ h i j ∧ h i j ≤ 1000000000 → -1000000000 ≤ h j i ∧ h j i ≤ 1000000000 →
      (idx n (w64 (x - 1)) fun j38 => idx ((gx (tab n h) j38).length) (w64 (y - 1)) fun j39 => idx n (w64 (y - 1)) fun j41 => idx ((gx ((tab n h).set j38 ((gx (tab n h) j38).set j39 (w64 ((gx (gx (tab n h) j38) j39) - w)))) j41).length) (w64 (x - 1)) fun j42 =>
        some (((tab n h).set j38 ((gx (tab n h) j38).set j39 (w64 ((gx (gx (tab n h) j38) j39) - w)))).set j41 ((gx ((tab n h).set j38 ((gx (tab n h) j38).set j39 (w64 ((gx (gx (tab n h) j38) j39) - w)))) j41).set j42 (w64 ((gx (gx ((tab n h).set j38 ((gx (tab n h) j38).set j39 (w64 ((gx (gx (tab n h) j38) j39) - w)))) j41) j42) - w)))))
        = some (tab n (fun a b => if a = j ∧ b = i then h j i - w else if a = i ∧ b = j then h i j - w else h a b)) := by
    intro h x y i j hx hy hi hj hij hb hb2
    have e : w64 (x - 1) = (i : Int) := by rw [w64_in (by omega) (by omega)]; omega
    have e2 : w64 (y - 1) = (j : Int) := by rw [w64_in (by omega) (by omega)]; omega
    rw [e, e2, idx_at hi, idx_at (by rw [tab_gx hi, row1_len]; exact hj), idx_at hj, tab_set hi hj, tab_gx hi, row1_gx hj]
    rw [idx_at (by rw [tab_gx hj, row1_len]; exact hi), tab_set hj hi, tab_gx hj, row1_gx hi, w64_in (x := h i j - w) (by omega) (by omega), if_neg (fun hh => hij hh.1.symm), w64_in (by omega) (by omega)]
  unfold p_impl_addLink
  rw [tab_len]
  rcases (show f = 0 ∨ ∃ i : Nat, f = (i : Int) + 1 ∧ i < n from by
    by_cases h : f = 0
    · exact .inl h
    · exact .inr ⟨(f - 1).toNat, by omega, by omega⟩) with h1 | ⟨i, h1, hi⟩ <;>
  rcases (show t = 0 ∨ ∃ j : Nat, t = (j : Int) + 1 ∧ j < n from by
    by_cases h : t = 0
    · exact .inl h
    · exact .inr ⟨(t - 1).toNat, by omega, by omega⟩) with h2 | ⟨j, h2, hj⟩
  · omega
  · rw [decide_eq_false (p := 0 < f) (by omega), decide_eq_true (p := 0 < t) (by omega)]
    simp only [cond_false, cond_true, Option.bind_some]
    rw [key1 g t j h2 hj (hg j j)]
    simp only [Option.bind_some]
    congr 1
    apply tab_ext; intro a b ha hb
    subst h1 h2
    unfold lk
    simp only []
    by_cases e1 : a = j ∧ b = j
    · obtain ⟨rfl, rfl⟩ := e1
      rw [if_pos ⟨rfl, rfl⟩, if_pos rfl]; (repeat' split) <;> omega
    · rw [if_neg e1]; (repeat' split) <;> omega
  · rw [decide_eq_true (p := 0 < f) (by omega), decide_eq_false (p := 0 < t) (by omega)]
    simp only [cond_false, cond_true, Option.bind_some]
    rw [key1 g f i h1 hi (hg i i)]
    simp only [Option.bind_some]
    congr 1
    apply tab_ext; intro a b ha hb
    subst h1 h2
    unfold lk
    simp only []
    by_cases e1 : a = i ∧ b = i
    · obtain ⟨rfl, rfl⟩ := e1
      rw [if_pos ⟨rfl, rfl⟩, if_pos rfl]; (repeat' split) <;> omega
    · rw [if_neg e1]; (repeat' split) <;> omega
  · have hij : i ≠ j := by omega
    rw [decide_eq_true (p := 0 < f) (by omega), decide_eq_true (p := 0 < t) (by omega)]
    simp only [cond_true]
    rw [key1 g f i h1 hi (hg i i)]
    simp only [Option.bind_some]
    have hgj := hg j j
    rw [key1 _ t j h2 hj (by rw [if_neg (fun hh => hij hh.1.symm)]; exact hgj)]
    simp only [Option.bind_some, cond_true]
    have hg1 := hg i j; have hg2 := hg j i
    rw [keym _ f t i j h1 h2 hi hj hij (by rw [if_neg (fun hh => hij hh.1), if_neg (fun hh => hij hh.2.symm)]; exact hg1) (by rw [if_neg (fun hh => hij hh.2), if_neg (fun hh => hij hh.1.symm)]; exact hg2)]
    congr 1
    apply tab_ext; intro a b ha hb
    subst h1 h2
    unfold lk
    simp only []
    by_cases c1 : a = j ∧ b = i
    · obtain ⟨rfl, rfl⟩ := c1
      rw [if_pos ⟨rfl, rfl⟩, if_neg (by omega), if_neg (by omega), if_neg (by omega), if_neg (by omega), if_pos (by omega)]; omega
    · rw [if_neg c1]
      by_cases c2 : a = i ∧ b = j
      · obtain ⟨rfl, rfl⟩ := c2
        rw [if_pos ⟨rfl, rfl⟩, if_neg (by omega), if_neg (by omega), if_neg (by omega), if_pos (by omega), if_neg (by omega)]; omega
      · rw [if_neg c2]
        by_cases c3 : a = j ∧ b = j
        · obtain ⟨rfl, rfl⟩ := c3
          rw [if_pos ⟨rfl, rfl⟩, if_neg (by omega), if_pos rfl, if_neg (by omega), if_pos rfl]; omega
        · rw [if_neg c3]
          by_cases c4 : a = i ∧ b = i
          · obtain ⟨rfl, rfl⟩ := c4
            rw [if_pos ⟨rfl, rfl⟩, if_pos rfl, if_pos rfl, if_neg (by omega)]; omega
          · rw [if_neg c4]
            by_cases c5 : a = b
            · rw [if_pos c5, if_neg (by omega), if_neg (by omega)]; omega
            · rw [if_neg c5, if_neg (by omega), if_neg (by omega)]; omega

theorem l_squareOf {n : Nat} (h : n ≤ 1000) : p_impl_squareOf (n : Int) = some (tab n (fun _ _ => 0)) := by
  unfold p_impl_squareOf
  rw [sized_at (by omega)]
  have e : tab n (fun _ _ => 0) = List.replicate n (List.replicate n (0 : Int)) := by
    apply gx_ext (by simp [tab_len]); intro k hk
    rw [tab_len] at hk
    rw [tab_gx hk, gx_rep hk, row1_zero]
  have := loop_stop (B := p_impl_squareOf_L0 (n : Int) n) (fun k => ((k : Int), mixG (tab n (fun _ _ => 0)) (List.replicate n []) k)) n (e := tab n (fun _ _ => 0)) (fun k hk => by
    simp only [p_impl_squareOf_L0]
    have hl : (tab n (fun _ _ => 0)).length = (List.replicate n ([] : List Int)).length := by simp [tab_len]
    rw [decide_eq_true (by omega), sized_at (by omega), idx_at hk, w64_succ (by omega), ← mixG_set hl (by simpa using hk), tab_gx hk, row1_zero]
    rfl) (by
    simp only [p_impl_squareOf_L0]
    rw [decide_eq_false (by omega)]
    have := mixG_end (m := tab n (fun _ _ => 0)) (l := List.replicate n ([] : List Int)) (by simp [tab_len])
    rw [List.length_replicate] at this
    rw [this]; rfl)
  rw [mixG_zero] at this
  rw [show ((0 : Int), List.replicate n ([] : List Int)) = (((0 : Nat) : Int), List.replicate n ([] : List Int)) from rfl, this]; rfl

/-- A mine's matrix. -/
def airM (m : Mine) : List (List Int) := if mineOk m then tab (m.p - 1).toNat (lks m.aw) else []
theorem lks_nil (i j : Nat) : lks [] i j = 0 := rfl
theorem l_implAirMatrix {m : Mine} (h : m.aw.length ≤ 4611686018427387904) : p_impl_AirMatrix m = some (airM m) := by
  unfold p_impl_AirMatrix airM
  rw [show (⟨m.p, m.aw⟩ : Mine) = m from rfl, l_implMineValid h]
  cases hv : mineOk m with
  | false => rfl
  | true =>
    have ok := mineOk_iff.1 hv
    have p1 := ok.p1; have p5 := ok.p5; have n7 := ok.n7
    simp only [Option.bind_some, Bool.not_true, cond_false, if_true]
    have e : w64 (m.p - 1) = (((m.p - 1).toNat : Nat) : Int) := by rw [w64_in (by omega) (by omega)]; omega
    rw [e, l_squareOf (by omega)]
    simp only [Option.bind_some]
    have := loop_stop (B := p_impl_AirMatrix_L0 m) (fun k => ((k : Int), tab (m.p - 1).toNat (lks (m.aw.take k)))) m.aw.length (e := tab (m.p - 1).toNat (lks m.aw)) (fun k hk => by
      simp only [p_impl_AirMatrix_L0]
      have a := ok.aw k hk
      have a1 := a.f0; have a2 := a.f1; have a3 := a.t0; have a4 := a.t1; have a5 := a.ne; have a6 := a.w1; have a7 := a.w6
      rw [decide_eq_true (by omega), idx_at hk, w64_succ (by omega), l_addLink ⟨a1, by omega⟩ ⟨a3, by omega⟩ a5 ⟨by omega, by omega⟩ (by omega) (fun i j => by
        have := lks_bd (l := m.aw.take k) (p := m.p) (fun q hq => by
          rw [List.length_take] at hq
          rw [gx_take (by omega)]; exact ok.aw q (by omega)) i j
        rw [List.length_take] at this
        omega)]
      simp only [cond_true, Option.bind_some]
      congr 3
      apply tab_ext; intro i j _ _
      rw [lks_take hk]) (by
      simp only [p_impl_AirMatrix_L0]
      rw [decide_eq_false (by omega), List.take_length]; rfl)
    rw [show ((0 : Int), tab (m.p - 1).toNat (fun _ _ => 0)) = (((0 : Nat) : Int), tab (m.p - 1).toNat (lks (m.aw.take 0))) from rfl, this]; rfl

/-- What a link adds to a row, as the reference reads it. -/
theorem lk_row {a : Airway} {i j : Nat} (h : a.f ≠ a.t) : lk a i j =
    (if a.t = (i : Int) + 1 then (if j = i then a.w else 0) - (if a.f = (j : Int) + 1 then a.w else 0)
     else if a.f = (i : Int) + 1 then (if j = i then a.w else 0) - (if a.t = (j : Int) + 1 then a.w else 0) else 0) := by
  unfold lk
  by_cases e : i = j
  · subst e; simp only [if_true]; (repeat' split) <;> omega
  · rw [if_neg e]; simp only [if_neg (show ¬ j = i from fun hh => e hh.symm)]; (repeat' split) <;> omega
theorem l_specRow {m : Mine} (ok : MineOk m) {i n : Nat} (hn : (n : Int) = m.p - 1) (hi : i < n) :
    loop (p_spec_AirMatrix_L1 m ((i : Int) + 1) n) (0, List.replicate n 0) = some (row1 n (lks m.aw i)) := by
  have p1 := ok.p1; have p5 := ok.p5; have n7 := ok.n7
  have := loop_stop (B := p_spec_AirMatrix_L1 m ((i : Int) + 1) n) (fun k => ((k : Int), row1 n (lks (m.aw.take k) i))) m.aw.length (e := row1 n (lks m.aw i)) (fun k hk => by
    simp only [p_spec_AirMatrix_L1]
    have a := ok.aw k hk
    have a1 := a.f0; have a2 := a.f1; have a3 := a.t0; have a4 := a.t1; have a5 := a.ne; have a6 := a.w1; have a7 := a.w6
    have hb : ∀ j, -42 ≤ lks (m.aw.take k) i j ∧ lks (m.aw.take k) i j ≤ 42 := fun j => by
      have := lks_bd (l := m.aw.take k) (p := m.p) (fun q hq => by
        rw [List.length_take] at hq
        rw [gx_take (by omega)]; exact ok.aw q (by omega)) i j
      rw [List.length_take] at this
      omega
    have ei : w64 ((i : Int) + 1 - 1) = (i : Int) := by rw [w64_in (by omega) (by omega)]; omega
    rw [decide_eq_true (by omega), idx_at hk, w64_succ (by omega), ei]
    simp only [cond_true, beq_dec]
    -- the other end
    have other : ∀ x : Int, 0 ≤ x → x < m.p → x ≠ (i : Int) + 1 → (∀ j, lk (gx m.aw k) i j = (if j = i then (gx m.aw k).w else 0) - (if x = (j : Int) + 1 then (gx m.aw k).w else 0)) →
        (idx n (i : Int) fun j54 => idx m.aw.length (k : Int) fun j55 => cond (decide (0 < x)) (idx n (w64 (x - 1)) fun j57 => some (Lp.next (((k + 1 : Nat) : Int), ((row1 n (lks (m.aw.take k) i)).set j54 (w64 ((gx (row1 n (lks (m.aw.take k) i)) j54) + ((gx m.aw j55).w)))).set j57 (w64 ((gx ((row1 n (lks (m.aw.take k) i)).set j54 (w64 ((gx (row1 n (lks (m.aw.take k) i)) j54) + ((gx m.aw j55).w)))) j57) - ((gx m.aw j55).w))))))
          (some (.next (((k + 1 : Nat) : Int), (row1 n (lks (m.aw.take k) i)).set j54 (w64 ((gx (row1 n (lks (m.aw.take k) i)) j54) + ((gx m.aw j55).w))))))) = (some (.next (((k + 1 : Nat) : Int), row1 n (lks (m.aw.take (k + 1)) i))) : O (Lp (Int × List Int) (List Int))) := by
      intro x hx0 hx1 hxi hlk
      have hbi := hb i
      rw [idx_at hi, idx_at hk, row1_set hi, row1_gx hi, w64_in (x := lks (m.aw.take k) i i + (gx m.aw k).w) (by omega) (by omega)]
      by_cases hx : 0 < x
      · have ex : w64 (x - 1) = (((x - 1).toNat : Nat) : Int) := by rw [w64_in (by omega) (by omega)]; omega
        have hxn : (x - 1).toNat < n := by omega
        have hbx := hb (x - 1).toNat
        rw [decide_eq_true hx, ex, idx_at hxn, row1_set hxn, row1_gx hxn, if_neg (by omega), w64_in (by omega) (by omega)]
        simp only [cond_true]
        congr 3
        apply row1_ext; intro j hj
        rw [lks_take hk, hlk j]
        by_cases e1 : j = i <;> by_cases e2 : j = (x - 1).toNat
        · omega
        · subst e1; rw [if_neg e2, if_pos rfl, if_pos rfl, if_neg (by omega)]; omega
        · subst e2; rw [if_pos rfl, if_neg e1, if_pos (by omega)]; omega
        · rw [if_neg e2, if_neg e1, if_neg e1, if_neg (by omega)]; omega
      · rw [decide_eq_false hx]
        simp only [cond_false]
        congr 3
        apply row1_ext; intro j hj
        rw [lks_take hk, hlk j]
        by_cases e1 : j = i
        · subst e1; rw [if_pos rfl, if_pos rfl, if_neg (by omega)]; omega
        · rw [if_neg e1, if_neg e1, if_neg (by omega)]; omega
    by_cases ht : (gx m.aw k).t = (i : Int) + 1
    · rw [decide_eq_true ht]
      simp only [cond_true, Option.bind_some, decide_true]
      exact other _ a1 a2 (by omega) (fun j => by rw [lk_row a5, if_pos ht])
    · rw [decide_eq_false ht]
      simp only [cond_false, Option.bind_some]
      by_cases hf : (gx m.aw k).f = (i : Int) + 1
      · rw [decide_eq_true hf]
        simp only [cond_true]
        exact other _ a3 a4 (by omega) (fun j => by rw [lk_row a5, if_neg ht, if_pos hf])
      · rw [decide_eq_false hf]
        simp only [cond_false]
        congr 3
        apply row1_ext; intro j hj
        rw [lks_take hk, lk_row a5, if_neg ht, if_neg hf]; omega) (by
    simp only [p_spec_AirMatrix_L1]
    rw [decide_eq_false (by omega), List.take_length]; rfl)
  rw [show ((0 : Int), List.replicate n (0 : Int)) = (((0 : Nat) : Int), row1 n (lks (m.aw.take 0) i)) from by rw [row1_zero]; rfl, this]
theorem l_specAirMatrix {m : Mine} (h : m.aw.length ≤ 4611686018427387904) (hp : m.p ≤ 9223372036854775807) : p_spec_AirMatrix m = some (airM m) := by
  unfold p_spec_AirMatrix airM
  have hmm : (⟨m.p, m.aw⟩ : Mine) = m := rfl
  cases hv : mineOk m with
  | false =>
    rw [loop_out (e := []) (by
      simp only [p_spec_AirMatrix_L0, hmm, l_specMineValid h, hv, Option.bind_some]
      cases decide (1 < m.p) <;> rfl)]
    rfl
  | true =>
    have ok := mineOk_iff.1 hv
    have p1 := ok.p1; have p5 := ok.p5; have n7 := ok.n7
    simp only [if_true]
    have hn : (((m.p - 1).toNat : Nat) : Int) = m.p - 1 := by omega
    generalize (m.p - 1).toNat = n at hn
    have hw : w64 (m.p - 1) = (n : Int) := by rw [w64_in (by omega) (by omega)]; omega
    have := loop_stop (B := p_spec_AirMatrix_L0 m) (fun k => ((tab n (lks m.aw)).take k, (k : Int) + 1)) n (e := tab n (lks m.aw)) (fun k hk => by
      simp only [p_spec_AirMatrix_L0, hmm, l_specMineValid h, hv, Option.bind_some]
      rw [decide_eq_true (by omega), hw, sized_at (by omega), l_specRow ok hn hk, w64_in (by omega) (by omega)]
      simp only [cond_true, Option.bind_some]
      rw [need_of (by rw [List.length_take]; omega), take_gx (by rw [tab_len]; exact hk), tab_gx hk]
      congr 3) (by
      simp only [p_spec_AirMatrix_L0, hmm, l_specMineValid h, hv, Option.bind_some]
      rw [decide_eq_false (by omega), List.take_of_length_le (by rw [tab_len]; exact Nat.le_refl _)]; rfl)
    rw [show (([] : List (List Int)), (1 : Int)) = ((tab n (lks m.aw)).take 0, ((0 : Nat) : Int) + 1) from rfl, this]; rfl
end Go.Proofs.YtkedammjdldloaaDoor
