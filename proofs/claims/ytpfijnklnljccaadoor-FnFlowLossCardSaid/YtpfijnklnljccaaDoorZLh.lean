/- Flows: both programs compute the same; its conditions are the sizes, and that an amount is no greater than a billion of billions. -/
import Derived.Test.YtpfijnklnljccaaDoorZLk
import Derived.Test.YtpfijnklnljccaaDoorZQ
namespace Go.Proofs.YtpfijnklnljccaaDoor
open Go
set_option linter.unusedVariables false
set_option linter.unusedSimpArgs false

def fitB (x : Int) : Bool := decide (-9999999 ≤ x) && decide (x ≤ 9999999)
def fits (l : List Int) : Bool := (List.range l.length).all fun k => fitB (gx l k)
theorem fits_at {l : List Int} (h : fits l = true) : ∀ k, k < l.length → -9999999 ≤ gx l k ∧ gx l k ≤ 9999999 := by
  intro k hk
  unfold fits fitB at h
  rw [List.all_eq_true] at h
  have := h k (by simpa using hk)
  simpa using this
theorem l_flowFits {m : Mine} {l : List Int} (h : l.length ≤ 4611686018427387904) : p_impl_flowFits m l = some (decide (l.length = m.aw.length) && fits l) := by
  unfold p_impl_flowFits fits
  rw [bne_dec]
  have e1 : decide (((l.length : Nat) : Int) = ((m.aw.length : Nat) : Int)) = decide (l.length = m.aw.length) := by rw [decide_eq_decide]; omega
  rw [e1, loop_all (fun k => fitB (gx l k)) l.length false (fun k hk => by
    simp only [p_impl_flowFits_L0]
    rw [decide_eq_true (by omega), idx_at hk, l_isWithin (by omega), w64_succ (by omega)]
    unfold fitB
    cases decide (-9999999 ≤ gx l k) <;> cases decide (gx l k ≤ 9999999) <;> rfl) (by simp only [p_impl_flowFits_L0]; rw [decide_eq_false (by omega)]; rfl)]
  cases decide (l.length = m.aw.length) <;> cases (List.range l.length).all (fun k => fitB (gx l k)) <;> rfl

def rA (a : Airway) : Int := Int.tdiv 60 a.w
theorem rA_eq {p : Int} {a : Airway} (h : AwOk p a) : a.w * rA a = 60 ∧ 10 ≤ rA a ∧ rA a ≤ 60 := by
  have w1 := h.w1; have w6 := h.w6
  unfold rA
  rcases (show a.w = 1 ∨ a.w = 2 ∨ a.w = 3 ∨ a.w = 4 ∨ a.w = 5 ∨ a.w = 6 by omega) with e | e | e | e | e | e <;> rw [e] <;> decide
def lsk (m : Mine) (l : List Int) (k : Nat) : Int := gx l k * gx l k * rA (gx m.aw k)
def lossOk (m : Mine) (l : List Int) : Bool := mineOk m && (decide (l.length = m.aw.length) && fits l)
def loss (m : Mine) (l : List Int) : Int := if lossOk m l then sm m.aw.length (lsk m l) else -1
theorem sq_bd {x : Int} (h : -9999999 ≤ x ∧ x ≤ 9999999) : 0 ≤ x * x ∧ x * x ≤ 100000000000000 := by
  have h1 : x.natAbs ≤ 10000000 := by omega
  have h2 := Nat.mul_le_mul h1 h1
  rw [← Int.natAbs_mul] at h2
  have h3 : 0 ≤ x * x := sq_nonneg
  omega
theorem lsk_bd {m : Mine} {l : List Int} (ok : MineOk m) (hl : l.length = m.aw.length) (hf : fits l = true) {k : Nat} (hk : k < m.aw.length) : 0 ≤ lsk m l k ∧ lsk m l k ≤ 6000000000000000 := by
  have h1 := sq_bd (fits_at hf k (by omega))
  have h2 := rA_eq (ok.aw k hk)
  unfold lsk
  refine ⟨Int.mul_nonneg h1.1 (by omega), ?_⟩
  have := Int.mul_le_mul h1.2 h2.2.2 (by omega) (by omega)
  omega
theorem lsum_bd {m : Mine} {l : List Int} (ok : MineOk m) (hl : l.length = m.aw.length) (hf : fits l = true) : ∀ k, k ≤ m.aw.length → 0 ≤ sm k (lsk m l) ∧ sm k (lsk m l) ≤ 6000000000000000 * (k : Int) := by
  intro k
  induction k with
  | zero => intro _; simp [sm]
  | succ k ih =>
    intro hk
    have h1 := ih (by omega)
    have h2 := lsk_bd ok hl hf (k := k) (by omega)
    simp only [sm]; omega
theorem lstep {m : Mine} {l : List Int} (ok : MineOk m) (hl : l.length = m.aw.length) (hf : fits l = true) {k : Nat} (hk : k < m.aw.length) :
    w64 (sm k (lsk m l) + w64 (w64 (gx l k * gx l k) * w64 (Int.tdiv 60 (gx m.aw k).w))) = sm (k + 1) (lsk m l) := by
  have n7 := ok.n7
  have h1 := sq_bd (fits_at hf k (by omega))
  have h2 := rA_eq (ok.aw k hk)
  have h3 := lsk_bd ok hl hf hk
  have h4 := lsum_bd ok hl hf k (by omega)
  have e1 : w64 (Int.tdiv 60 (gx m.aw k).w) = rA (gx m.aw k) := by
    have : Int.tdiv 60 (gx m.aw k).w = rA (gx m.aw k) := rfl
    rw [this]; exact w64_in (by omega) (by omega)
  have e2 : w64 (gx l k * gx l k) = gx l k * gx l k := w64_in (by omega) (by omega)
  rw [e1, e2]
  have e3 : gx l k * gx l k * rA (gx m.aw k) = lsk m l k := rfl
  rw [e3, w64_in (x := lsk m l k) (by omega) (by omega), w64_in (by omega) (by omega)]; rfl
theorem l_implFlowLoss {m : Mine} {l : List Int} (h : m.aw.length ≤ 4611686018427387904) (hl : l.length ≤ 4611686018427387904) : p_impl_FlowLoss m l = some (loss m l) := by
  unfold p_impl_FlowLoss loss lossOk
  rw [show (⟨m.p, m.aw⟩ : Mine) = m from rfl, l_implMineValid h, l_flowFits hl]
  cases hv : mineOk m with
  | false => rfl
  | true =>
    have ok := mineOk_iff.1 hv
    have n7 := ok.n7
    by_cases hln : l.length = m.aw.length
    · rw [decide_eq_true hln]
      cases hf : fits l with
      | false => rfl
      | true =>
        simp only [Option.bind_some, Bool.not_true, cond_false, Bool.and_self, if_true]
        rw [loop_to (B := p_impl_FlowLoss_L0 m l) (fun k => (sm k (lsk m l), (k : Int))) m.aw.length (by rfl) (e := sm m.aw.length (lsk m l)) (fun k hk => by
          simp only [p_impl_FlowLoss_L0]
          have w1 := (ok.aw k hk).w1
          rw [decide_eq_true (by omega), idx_at hk, idx_at (by omega), need_of (by omega), w64_succ (by omega), lstep ok hln hf hk]; rfl) (by
          simp only [p_impl_FlowLoss_L0]
          rw [decide_eq_false (by omega)]; rfl)]
        rfl
    · rw [decide_eq_false hln]; rfl
theorem l_specFlowLoss {m : Mine} {l : List Int} (h : m.aw.length ≤ 4611686018427387904) (hl : l.length ≤ 4611686018427387904) : p_spec_FlowLoss m l = some (loss m l) := by
  unfold p_spec_FlowLoss loss lossOk
  rw [show (⟨m.p, m.aw⟩ : Mine) = m from rfl, l_specMineValid h, bne_dec]
  have e1 : decide (((l.length : Nat) : Int) = ((m.aw.length : Nat) : Int)) = decide (l.length = m.aw.length) := by rw [decide_eq_decide]; omega
  rw [e1]
  cases hv : mineOk m with
  | false => rfl
  | true =>
    have ok := mineOk_iff.1 hv
    have n7 := ok.n7
    by_cases hln : l.length = m.aw.length
    · rw [decide_eq_true hln]
      simp only [Option.bind_some, Bool.not_true, cond_false, Bool.true_and]
      -- what is summed up to a number that does not fit is of no matter
      rw [loop_allS (B := p_spec_FlowLoss_L0 m l) (fun k => (sm k (lsk m l), (k : Int))) (fun k => fitB (gx l k)) l.length (.inl (sm l.length (lsk m l))) (.inr (-1)) (by rfl) (fun k hk hq => by
        simp only [p_spec_FlowLoss_L0]
        have w1 := (ok.aw k (by omega)).w1
        rw [decide_eq_true (by omega), idx_at hk, l_l1In]
        have ef : (decide (-9999999 ≤ gx l k) && decide (gx l k ≤ 9999999)) = fitB (gx l k) := rfl
        rw [ef]
        cases hb : fitB (gx l k) with
        | false => rfl
        | true =>
          simp only [cond_true, Option.bind_some, Bool.not_true, cond_false]
          rw [idx_at (by omega), need_of (by omega), w64_succ (by omega)]
          -- the numbers up to here fit
          have hft : fits (l.take (k + 1)) = true := by
            unfold fits
            rw [List.all_eq_true]
            intro i hi
            have hi' : i < k + 1 := by simp at hi; omega
            rw [gx_take hi']
            by_cases e : i = k
            · subst e; exact hb
            · exact hq i (by omega)
          have h1 := sq_bd (x := gx l k) (by unfold fitB at hb; simpa using hb)
          have h2 := rA_eq (ok.aw k (by omega))
          have bdk : ∀ i, i < k → 0 ≤ lsk m l i ∧ lsk m l i ≤ 6000000000000000 := by
            intro i hi
            have a1 := sq_bd (x := gx l i) (by have := hq i hi; unfold fitB at this; simpa using this)
            have a2 := rA_eq (ok.aw i (by omega))
            unfold lsk
            refine ⟨Int.mul_nonneg a1.1 (by omega), ?_⟩
            have := Int.mul_le_mul a1.2 a2.2.2 (by omega) (by omega)
            omega
          have sb : ∀ j, j ≤ k → 0 ≤ sm j (lsk m l) ∧ sm j (lsk m l) ≤ 6000000000000000 * (j : Int) := by
            intro j
            induction j with
            | zero => intro _; simp [sm]
            | succ j ih =>
              intro hj
              have := ih (by omega); have := bdk j (by omega)
              simp only [sm]; omega
          have h4 := sb k (Nat.le_refl _)
          have e1 : w64 (Int.tdiv 60 (gx m.aw k).w) = rA (gx m.aw k) := by
            have : Int.tdiv 60 (gx m.aw k).w = rA (gx m.aw k) := rfl
            rw [this]; exact w64_in (by omega) (by omega)
          have e2 : w64 (gx l k * gx l k) = gx l k * gx l k := w64_in (by omega) (by omega)
          have h3 : 0 ≤ gx l k * gx l k * rA (gx m.aw k) ∧ gx l k * gx l k * rA (gx m.aw k) ≤ 6000000000000000 := by
            refine ⟨Int.mul_nonneg h1.1 (by omega), ?_⟩
            have := Int.mul_le_mul h1.2 h2.2.2 (by omega) (by omega)
            omega
          rw [e1, e2, w64_in (x := gx l k * gx l k * rA (gx m.aw k)) (by omega) (by omega), w64_in (by omega) (by omega)]; rfl) (fun _ => by
        simp only [p_spec_FlowLoss_L0]
        rw [decide_eq_false (by omega)]; rfl)]
      unfold fits
      cases (List.range l.length).all (fun k => fitB (gx l k)) with
      | false => rfl
      | true => simp only [cond_true, Option.bind_some, if_true]; rw [hln]
    · rw [decide_eq_false hln]; rfl

def flow0 (m : Mine) (l : List Int) (n k : Nat) : List Int := row1 n fun v => dv ((eM m).take k) (gx l) v
end Go.Proofs.YtpfijnklnljccaaDoor
