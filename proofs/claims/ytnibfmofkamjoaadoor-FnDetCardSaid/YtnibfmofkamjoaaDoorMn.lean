/- The law of determinants drawn, as a plain program; no condition. -/
import Derived.Test.YtnibfmofkamjoaaDoorLn
import Derived.Test.YtnibfmofkamjoaaDoorLy
import Derived.Test.YtnibfmofkamjoaaDoorLx
import Derived.Test.YtnibfmofkamjoaaDoorQ4Det
namespace Go.Proofs.YtnibfmofkamjoaaDoor
open Go
set_option linter.unusedVariables false
set_option linter.unusedSimpArgs false

theorem t_drawDet {code : List UInt8} : Tot (p_spec_DrawDet code) fun m => Sml 7 m := by
  unfold p_spec_DrawDet
  obtain ⟨b, hb, hl⟩ := x_bopen (code := code)
  rw [hb]; simp only [Option.bind_some]
  refine Tot.bind (t_matrix hl (by omega) (by omega)) fun ⟨m, q⟩ h => Tot.ret ?_
  exact h.2.2
theorem l_detAdd {n i : Nat} {g : Nat → Nat → Int} (hn : n ≤ 5) (hi : i + 1 < n) (hg : ∀ i, i < n → ∀ j, j < n → -999 ≤ g i j ∧ g i j ≤ 999) :
    loop (p_laws_FnDet_L1 (tab n g) ((i + 1 : Nat) : Int) (tab n g)) (0, tab n g) = some (tab n (ur g (i + 1) (fun j => g (i + 1) j + 1 * g i j))) := by
  have e1 : w64 (((i + 1 : Nat) : Int) - 1) = (i : Int) := by rw [w64_i (by omega)]; omega
  rw [loop_to (B := p_laws_FnDet_L1 (tab n g) ((i + 1 : Nat) : Int) (tab n g)) (fun y => ((y : Int), tab n (fun a b => if a = i + 1 ∧ b < y then g (i + 1) b + g i b else g a b))) n (by
    simp only [Nat.not_lt_zero, and_false, if_false]; rfl) (e := tab n (ur g (i + 1) (fun j => g (i + 1) j + 1 * g i j))) (fun y hy => by
    simp only [p_laws_FnDet_L1]
    rw [tab_len, decide_eq_true (by omega), idx_at hi, tab_gx hi, row1_len, idx_at hy, e1, idx_at (by omega), tab_gx (show i < n by omega), row1_len, idx_at hy, w64_succ (by omega), row1_gx hy, row1_gx hy, w64_i (by
      have h1 := hg (i + 1) hi y hy
      have h2 := hg i (by omega) y hy
      rw [if_neg (by omega)]; omega)]
    have := tab_set (n := n) (i := i + 1) (j := y) (g := fun a b => if a = i + 1 ∧ b < y then g (i + 1) b + g i b else g a b) (v := g (i + 1) y + g i y) hi hy
    rw [tab_gx hi] at this
    rw [if_neg (by omega), this]
    simp only [cond_true]
    congr 3
    apply tab_ext; intro a b ha hb
    by_cases c : a = i + 1 ∧ b = y
    · obtain ⟨rfl, rfl⟩ := c
      rw [if_pos ⟨rfl, rfl⟩, if_pos (by omega)]
    · rw [if_neg c]
      by_cases c2 : a = i + 1 ∧ b < y
      · rw [if_pos c2, if_pos (by omega)]
      · rw [if_neg c2, if_neg (by omega)]) (by
    simp only [p_laws_FnDet_L1]
    rw [tab_len, decide_eq_false (by omega)]
    simp only [cond_false]
    congr 2
    apply tab_ext; intro a b ha hb
    unfold ur
    by_cases c : a = i + 1
    · subst c; rw [if_pos ⟨rfl, hb⟩, if_pos rfl]; show g (i + 1) b + g i b = g (i + 1) b + 1 * g i b; omega
    · rw [if_neg (by omega), if_neg c])]
theorem l_detSteps {n : Nat} {g : Nat → Nat → Int} (hn : n ≤ 5) (hg : ∀ i, i < n → ∀ j, j < n → -999 ≤ g i j ∧ g i j ≤ 999) :
    loop (p_laws_FnDet_L0 (tab n g) (dt n g)) 1 = some (.inl ()) := by
  have S : ∀ g', (tab n g').length ≤ 4611686018427387904 ∧ ∀ k, k < (tab n g').length → (gx (tab n g') k).length ≤ 4611686018427387904 := fun g' => tab_small1 (by omega)
  have dl : ∀ g', (∀ i, i < n → ∀ j, j < n → -999 ≤ g' i j ∧ g' i j ≤ 999) → p_impl_Det (tab n g') = some (dt n g') := fun g' h => by
    rw [l_implDet (S g').1 (S g').2, det_tab hn h]
  have bdn : (dt n g).natAbs ≤ 119401198800599880 := Nat.le_trans (dt_bd fun i hi j hj => by have := hg i hi j hj; omega) (bd_5 hn)
  rw [loop_to (B := p_laws_FnDet_L0 (tab n g) (dt n g)) (fun i => ((i + 1 : Nat) : Int)) (n - 1) (by simp) (e := .inl ()) (fun i hi => by
    have hi1 : i + 1 < n := by omega
    have hi0 : i < n := by omega
    have e1 : w64 (((i + 1 : Nat) : Int) - 1) = (i : Int) := by rw [w64_i (by omega)]; omega
    simp only [p_laws_FnDet_L0]
    rw [tab_len, decide_eq_true (by omega), l_copyRows (by rw [tab_len]; omega) (fun k hk => by rw [tab_len] at hk; rw [tab_gx hk, row1_len]; omega), e1]
    simp only [cond_true, Option.bind_some]
    rw [tab_len, idx_at hi1, idx_at hi0, idx_at hi0, idx_at hi1, tab_gx hi1, tab_gx hi0, row1_len]
    simp only [List.nil_append, List.length_nil, row1_len]
    rw [need_of (by omega), need_of (by omega), need_of (by omega), idx_at hi0, tab_ur (r := i), tab_ur (r := i + 1), dl _ (fun a ha b hb => by
      unfold ur
      split
      · exact hg _ hi0 b hb
      · split
        · exact hg _ hi1 b hb
        · exact hg a ha b hb), dt_swap1 hi1, w64_i (x := - dt n g) (by omega)]
    simp only [Option.bind_some, bne_self_eq_false, cond_false]
    rw [l_detAdd hn hi1 hg, dl _ (fun a ha b hb => by
      unfold ur
      split
      · exact hg _ hi1 b hb
      · exact hg a ha b hb), dt_eqrows (r := i) (s := i + 1) hi0 hi1 (by omega) (fun j => by
      unfold ur; rw [if_pos rfl, if_neg (by omega)])]
    simp only [Option.bind_some, bne_self_eq_false, cond_false]
    rw [l_implMatrixValid (S _).1 (S _).2, l_implDet (S _).1 (S _).2, w64_succ (by omega)]
    simp only [Option.bind_some]
    cases hv : matOk (tab n (ur g (i + 1) fun j => g (i + 1) j + 1 * g i j)) with
    | false => rfl
    | true =>
      have ok := matOk_iff.1 hv
      have : det (tab n (ur g (i + 1) fun j => g (i + 1) j + 1 * g i j)) = dt n g := by
        rw [det_tab hn (fun a ha b hb => by
          have := ok.en a (by rw [tab_len]; exact ha) b (by rw [tab_len]; exact hb)
          rw [← fm_tab (g := ur g (i + 1) fun j => g (i + 1) j + 1 * g i j) ha hb]; exact this), dt_rowop hi1 hi0 (by omega)]
      rw [this]
      simp only [bne_self_eq_false, cond_false, cond_true]) (by
    simp only [p_laws_FnDet_L0]
    rw [tab_len, decide_eq_false (by omega)]; rfl)]
theorem l_FnDet {code : List UInt8} : p_laws_FnDet code = some true := by
  refine Tot.get ?_
  unfold p_laws_FnDet
  refine Tot.condd (fun _ => Tot.ret rfl) (fun _ => ?_)
  refine Tot.bind t_drawDet fun m hm => ?_
  have B := sml_big hm
  rw [l_implDet B.1 B.2, l_specDet B.1 B.2, l_specMatrixValid B.1 B.2]
  simp only [Option.bind_some, bne_self_eq_false, cond_false]
  cases hv : matOk m with
  | false =>
    have : det m = 0 := by unfold det; rw [hv]; rfl
    rw [this, l_alive]; exact Tot.ret rfl
  | true =>
    have ok := matOk_iff.1 hv
    have em := tab_fm rfl ok.sq
    have ed : det m = dt m.length (fm m) := by unfold det; rw [if_pos hv]
    have et : turn m = tab m.length (fun i j => fm m j i) := by unfold turn; rw [if_pos hv]
    have h5 := ok.n5
    have hg : ∀ i, i < m.length → ∀ j, j < m.length → -999 ≤ fm m i j ∧ fm m i j ≤ 999 := ok.en
    simp only [Bool.not_true, cond_false]
    rw [l_MatrixTurn B.1 B.2, et, ed]
    have L := l_detSteps h5 hg
    rw [← em] at L
    rw [L]
    simp only [Option.bind_some]
    rw [l_implDet (tab_small1 (by omega)).1 (tab_small1 (by omega)).2, det_tab h5 (fun i hi j hj => hg j hj i hi), dt_turn]
    exact Tot.ret (by simp)
end Go.Proofs.YtnibfmofkamjoaaDoor
