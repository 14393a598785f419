/- Flows: both programs compute the same; its conditions are the sizes, and that an amount is no greater than a billion of billions. -/
import Derived.Test.YtpfijnklnljccaaDoorZLk
import Derived.Test.YtpfijnklnljccaaDoorZQ
namespace Go.Proofs.YtpfijnklnljccaaDoor
open Go
set_option linter.unusedVariables false
set_option linter.unusedSimpArgs false

def fitB (x : Int) : Bool := decide (-9999999 ≤ x) && decide (x ≤ 9999999)
def fits (l : List Int) : Bool := (List.range l.length).all fun k => fitB (gx l k)
theorem fits_at {l : List Int} (h : fits l = true) : ∀ k, k < l.length → -9999999 ≤ gx l k ∧ gx l k ≤ 9999999 := by
  intro k hk
  unfold fits fitB at h
  rw [List.all_eq_true] at h
  have := h k (by simpa using hk)
  simpa using this
theorem l_flowFits {m : Mine} {l : List Int} (h : l.length ≤ 4611686018427387904) : p_impl_flowFits m l = some (decide (l.length = m.aw.length) && fits l) := by
  unfold p_impl_flowFits fits
  rw [bne_dec]
  have e1 : decide (((l.length : Nat) : Int) = ((m.aw.length : Nat) : Int)) = decide (l.length = m.aw.length) := by rw [decide_eq_decide]; omega
  rw [e1, loop_all (fun k => fitB (gx l k)) l.length false (fun k hk => by
    simp only [p_impl_flowFits_L0]
    rw [decide_eq_true (by omega), idx_at hk, l_isWithin (by omega), w64_succ (by omega)]
    unfold fitB
    cases decide (-9999999 ≤ gx l k) <;> cases decide (gx l k ≤ 9999999) <;> rfl) (by simp only [p_impl_flowFits_L0]; rw [decide_eq_false (by omega)]; rfl)]
  cases decide (l.length = m.aw.length) <;> cases (List.range l.length).all (fun k => fitB (gx l k)) <;> rfl

def rA (a : Airway) : Int := Int.tdiv 60 a.w
theorem rA_eq {p : Int} {a : Airway} (h : AwOk p a) : a.w * rA a = 60 ∧ 10 ≤ rA a ∧ rA a ≤ 60 := by
  have w1 := h.w1; have w6 := h.w6
  unfold rA
  rcases (show a.w = 1 ∨ a.w = 2 ∨ a.w = 3 ∨ a.w = 4 ∨ a.w = 5 ∨ a.w = 6 by omega) with e | e | e | e | e | e <;> rw [e] <;> decide
def lsk (m : Mine) (l : List Int) (k : Nat) : Int := gx l k * gx l k * rA (gx m.aw k)
def lossOk (m : Mine) (l : List Int) : Bool := mineOk m && (decide (l.length = m.aw.length) && fits l)
def loss (m : Mine) (l : List Int) : Int := if lossOk m l then sm m.aw.length (lsk m l) else -1
theorem sq_bd {x : Int} (h : -9999999 ≤ x ∧ x ≤ 9999999) : 0 ≤ x * x ∧ x * x ≤ 100000000000000 := by
  have h1 : x.natAbs ≤ 10000000 := by omega
  have h2 := Nat.mul_le_mul h1 h1
  rw [← Int.natAbs_mul] at h2
  have h3 : 0 ≤ x * x := sq_nonneg
  omega
theorem lsk_bd {m : Mine} {l : List Int} (ok : MineOk m) (hl : l.length = m.aw.length) (hf : fits l = true) {k : Nat} (hk : k < m.aw.length) : 0 ≤ lsk m l k ∧ lsk m l k ≤ 6000000000000000 := by
  have h1 := sq_bd (fits_at hf k (by omega))
  have h2 := rA_eq (ok.aw k hk)
  unfold lsk
  refine ⟨Int.mul_nonneg h1.1 (by omega), ?_⟩
  have := Int.mul_le_mul h1.2 h2.2.2 (by omega) (by omega)
  omega
theorem lsum_bd {m : Mine} {l : List Int} (ok : MineOk m) (hl : l.length = m.aw.length) (hf : fits l = true) : ∀ k, k ≤ m.aw.length → 0 ≤ sm k (lsk m l) ∧ sm k (lsk m l) ≤ 6000000000000000 * (k : Int) := by
  intro k
  induction k with
  | zero => intro _; simp [sm]
  | succ k ih =>
    intro hk
    have h1 := ih (by omega)
    have h2 := lsk_bd ok hl hf (k := k) (by omega)
    simp only [sm]; omega
theorem lstep {m : Mine} {l : List Int} (ok : MineOk m) (hl : l.length = m.aw.length) (hf : fits l = true) {k : Nat} (hk : k < m.aw.length) :
    w64 (sm k (lsk m l) + w64 (w64 (gx l k * gx l k) * w64 (Int.tdiv 60 (gx m.aw k).w))) = sm (k + 1) (lsk m l) := by
  have n7 := ok.n7
  have h1 := sq_bd (fits_at hf k (by omega))
  have h2 := rA_eq (ok.aw k hk)
  have h3 := lsk_bd ok hl hf hk
  have h4 := lsum_bd ok hl hf k (by omega)
  have e1 : w64 (Int.tdiv 60 (gx m.aw k).w) = rA (gx m.aw k) := by
    have : Int.tdiv 60 (gx m.aw k).w = rA (gx m.aw k) := rfl
    rw [this]; exact w64_in (by omega) (by omega)
  have e2 : w64 (gx l k * gx l k) = gx l k * gx l k := w64_in (by omega) (by omega)
  rw [e1, e2]
  have e3 : gx l k * gx l k * rA (gx m.aw k) = lsk m l k := rfl
  rw [e3, w64_in (x := lsk m l k) (by omega) (by omega), w64_in (by omega) (by omega)]; rfl
theorem l_implFlowLoss {m : Mine} {l : List Int} (h : m.aw.length ≤ 4611686018427387904) (hl : l.length ≤ 4611686018427387904) : p_impl_FlowLoss m l = some (loss m l) := by
  unfold p_impl_FlowLoss loss lossOk
  rw [show (⟨m.p, m.aw⟩ : Mine) = m from rfl, l_implMineValid h, l_flowFits hl]
  cases hv : mineOk m with
  | false => rfl
  | true =>
    have ok := mineOk_iff.1 hv
    have n7 := ok.n7
    by_cases hln : l.length = m.aw.length
    · rw [decide_eq_true hln]
      cases hf : fits l with
      | false => rfl
      | true =>
        simp only [Option.bind_some, Bool.not_true, cond_false, Bool.and_self, if_true]
        rw [loop_to (B := p_impl_FlowLoss_L0 m l) (fun k => (sm k (lsk m l), (k : Int))) m.aw.length (by rfl) (e := sm m.aw.length (lsk m l)) (fun k hk => by
          simp only [p_impl_FlowLoss_L0]
          have w1 := (ok.aw k hk).w1
          rw [decide_eq_true (by omega), idx_at hk, idx_at (by omega), need_of (by omega), w64_succ (by omega), lstep ok hln hf hk]; rfl) (by
          simp only [p_impl_FlowLoss_L0]
          rw [decide_eq_false (by omega)]; rfl)]
        rfl
    · rw [decide_eq_false hln]; rfl
def flow0 (m : Mine) (l : List Int) (n k : Nat) : List Int := row1 n fun v => dv ((eM m).take k) (gx l) v
theorem dv_take {m : Mine} {l : List Int} {k v : Nat} (hk : k < m.aw.length) : dv ((eM m).take (k + 1)) (gx l) v = dv ((eM m).take k) (gx l) v - gx l k * xv (eA (gx m.aw k)) v := by
  have h1 : ((eM m).take (k + 1)).length = k + 1 := by simp [eM]; omega
  have h2 : ((eM m).take k).length = k := by simp [eM]; omega
  unfold dv
  rw [h1, h2, sm, gx_take (by omega), eM_gx hk]
  have : sm k (fun j => -(gx l j * xv (gx ((eM m).take (k + 1)) j) v)) = sm k (fun j => -(gx l j * xv (gx ((eM m).take k) j) v)) := sm_congr fun j hj => by
    rw [gx_take (by omega), gx_take (by omega)]
  rw [this]; omega
theorem dv_bd {m : Mine} {l : List Int} {k v : Nat} (hk : k ≤ m.aw.length) (hf : ∀ i, i < k → -9999999 ≤ gx l i ∧ gx l i ≤ 9999999) : -(9999999 * (k : Int)) ≤ dv ((eM m).take k) (gx l) v ∧ dv ((eM m).take k) (gx l) v ≤ 9999999 * (k : Int) := by
  induction k with
  | zero => simp [dv, sm]
  | succ k ih =>
    rw [dv_take (by omega)]
    have h1 := ih (by omega) (fun i hi => hf i (by omega))
    have h2 := hf k (by omega)
    have h3 : xv (eA (gx m.aw k)) v = 0 ∨ xv (eA (gx m.aw k)) v = 1 ∨ xv (eA (gx m.aw k)) v = -1 := by
      unfold xv; split <;> split <;> simp
    rcases h3 with e | e | e <;> rw [e] <;> omega
/-- One airway's flow is brought to both its ends. -/
theorem flow_set {m : Mine} {l : List Int} {n k a b : Nat} (ok : MineOk m) (hk : k < m.aw.length) (ha : a < n) (hb : b < n) (hf : ∀ i, i < k + 1 → -9999999 ≤ gx l i ∧ gx l i ≤ 9999999) (ea : (gx m.aw k).f = (a : Int)) (eb : (gx m.aw k).t = (b : Int)) :
    (((flow0 m l n k).set a (w64 (gx (flow0 m l n k) a + gx l k))).set b (w64 (gx ((flow0 m l n k).set a (w64 (gx (flow0 m l n k) a + gx l k))) b - gx l k))) = flow0 m l n (k + 1) := by
  have n7 := ok.n7
  have hne := (ok.aw k hk).ne
  have bda := dv_bd (m := m) (l := l) (k := k) (v := a) (by omega) (fun i hi => hf i (by omega))
  have bdb := dv_bd (m := m) (l := l) (k := k) (v := b) (by omega) (fun i hi => hf i (by omega))
  have h2 := hf k (by omega)
  unfold flow0
  rw [row1_gx ha, row1_set ha, row1_gx hb, row1_set hb, if_neg (by omega), w64_in (x := dv ((eM m).take k) (gx l) a + gx l k) (by omega) (by omega), w64_in (by omega) (by omega)]
  apply row1_ext; intro v hv
  rw [dv_take hk]
  unfold xv eA
  simp only [ea, eb, Int.toNat_natCast]
  by_cases h1 : v = b
  · subst h1
    rw [if_pos rfl, if_pos rfl, if_neg (by omega)]; omega
  · rw [if_neg h1, if_neg (Ne.symm h1)]
    by_cases h3 : v = a
    · subst h3; rw [if_pos rfl, if_pos rfl]; omega
    · rw [if_neg h3, if_neg (Ne.symm h3)]; simp
def flOk (m : Mine) (i o K : Int) (l : List Int) : Bool := mineOk m && ((decide (0 ≤ i) && decide (i < m.p)) && ((decide (0 ≤ o) && decide (o < m.p)) && (decide (l.length = m.aw.length) && fits l))) && (List.range m.p.toNat).all fun v => decide (dv (eM m) (gx l) v = K * src i.toNat o.toNat v)
theorem flow_last {m : Mine} {l : List Int} {n : Nat} : flow0 m l n m.aw.length = row1 n fun v => dv (eM m) (gx l) v := by
  unfold flow0
  rw [List.take_of_length_le (by rw [eM_len]; omega)]
theorem l_implFlowOk {m : Mine} {i o K : Int} {l : List Int} (h : m.aw.length ≤ 4611686018427387904) (hl : l.length ≤ 4611686018427387904) (hK : -1000000000000000000 ≤ K ∧ K ≤ 1000000000000000000) : p_impl_FlowOk m i o K l = some (flOk m i o K l) := by
  unfold p_impl_FlowOk flOk
  rw [show (⟨m.p, m.aw⟩ : Mine) = m from rfl, l_implMineValid h, l_isIndex, l_isIndex, l_flowFits hl]
  cases hv : mineOk m with
  | false => rfl
  | true =>
    have ok := mineOk_iff.1 hv
    have n7 := ok.n7; have p1 := ok.p1; have p5 := ok.p5
    simp only [Option.bind_some, Bool.not_true, cond_false, Bool.true_and]
    cases h1 : (decide (0 ≤ i) && decide (i < m.p)) with
    | false => rfl
    | true =>
      cases h2 : (decide (0 ≤ o) && decide (o < m.p)) with
      | false => rfl
      | true =>
        cases h3 : (decide (l.length = m.aw.length) && fits l) with
        | false => rfl
        | true =>
          simp only [Option.bind_some, Bool.not_true, cond_false, Bool.true_and]
          rw [Bool.and_eq_true, decide_eq_true_eq, decide_eq_true_eq] at h1 h2
          rw [Bool.and_eq_true, decide_eq_true_eq] at h3
          obtain ⟨n, hn⟩ : ∃ n : Nat, m.p = (n : Int) := ⟨m.p.toNat, by omega⟩
          have hpn : m.p.toNat = n := by omega
          have hft := fits_at h3.2
          rw [hpn, hn, sized_at (by omega)]
          rw [loop_to (B := p_impl_FlowOk_L0 m l n) (fun k => ((k : Int), flow0 m l n k)) m.aw.length (by
            have : flow0 m l n 0 = List.replicate n 0 := by unfold flow0; rw [row1_zero]; rfl
            rw [this]; rfl) (e := row1 n fun v => dv (eM m) (gx l) v) (fun k hk => by
            simp only [p_impl_FlowOk_L0]
            have A := ok.aw k hk
            obtain ⟨a, ha⟩ := Int.eq_ofNat_of_zero_le A.f0
            obtain ⟨b, hb⟩ := Int.eq_ofNat_of_zero_le A.t0
            have f1 := A.f1; have t1 := A.t1
            have := flow_set (l := l) (n := n) ok hk (by omega) (by omega) (fun i hi => hft i (by omega)) ha hb
            rw [decide_eq_true (by omega), idx_at hk, idx_eq ha (by omega), idx_at (by omega), idx_eq hb (by omega), w64_succ (by omega), this]; rfl) (by
            simp only [p_impl_FlowOk_L0]
            rw [decide_eq_false (by omega), flow_last]; rfl)]
          simp only [Option.bind_some]
          rw [loop_all (B := p_impl_FlowOk_L1 i o K n (row1 n fun v => dv (eM m) (gx l) v)) (fun v => decide (dv (eM m) (gx l) v = K * src i.toNat o.toNat v)) n false (fun v hv' => by
            simp only [p_impl_FlowOk_L1]
            rw [decide_eq_true (by omega), idx_at hv', row1_gx hv', w64_succ (by omega), w64_in (x := -K) (by omega) (by omega)]
            simp only [cond_true, bne_dec, beq_dec]
            generalize dv (eM m) (gx l) v = d
            unfold src
            by_cases e1 : i = o
            · have e2 : (if v = i.toNat then (1 : Int) else 0) - (if v = o.toNat then 1 else 0) = 0 := by rw [e1]; omega
              rw [decide_eq_true e1, e2, Int.mul_zero]
              simp only [Bool.not_true, cond_false, Option.bind_some]
              cases decide (d = 0) <;> rfl
            · rw [decide_eq_false e1]
              simp only [Bool.not_false, cond_true, Option.bind_some]
              by_cases e3 : (v : Int) = i
              · rw [decide_eq_true e3, decide_eq_false (p := (v : Int) = o) (by omega), if_pos (by omega), if_neg (by omega)]
                simp only [cond_true, cond_false, Option.bind_some]
                rw [show K * (1 - 0) = K by omega]
                cases decide (d = K) <;> rfl
              · by_cases e4 : (v : Int) = o
                · rw [decide_eq_false e3, decide_eq_true e4, if_neg (by omega), if_pos (by omega)]
                  simp only [cond_true, cond_false, Option.bind_some]
                  rw [show K * (0 - 1) = -K by omega]
                  cases decide (d = -K) <;> rfl
                · rw [decide_eq_false e3, decide_eq_false e4, if_neg (by omega), if_neg (by omega)]
                  simp only [cond_false, Option.bind_some]
                  rw [show K * (0 - 0) = 0 by omega]
                  cases decide (d = 0) <;> rfl) (by simp only [p_impl_FlowOk_L1]; rw [decide_eq_false (by omega)]; rfl)]
          cases (List.range n).all (fun v => decide (dv (eM m) (gx l) v = K * src i.toNat o.toNat v)) <;> rfl
theorem l_specFlowOk {m : Mine} {i o K : Int} {l : List Int} (h : m.aw.length ≤ 4611686018427387904) (hl : l.length ≤ 4611686018427387904) (hK : -1000000000000000000 ≤ K ∧ K ≤ 1000000000000000000) : p_spec_FlowOk m i o K l = some (flOk m i o K l) := by
  unfold p_spec_FlowOk flOk
  rw [show (⟨m.p, m.aw⟩ : Mine) = m from rfl, l_specMineValid h, l_l1In, l_l1In, bne_dec]
  cases hv : mineOk m with
  | false => rfl
  | true =>
    have ok := mineOk_iff.1 hv
    have n7 := ok.n7; have p1 := ok.p1; have p5 := ok.p5
    have e1 : decide (i ≤ w64 (m.p - 1)) = decide (i < m.p) := by rw [w64_in (by omega) (by omega), decide_eq_decide]; omega
    have e2 : decide (o ≤ w64 (m.p - 1)) = decide (o < m.p) := by rw [w64_in (by omega) (by omega), decide_eq_decide]; omega
    have e3 : decide (((l.length : Nat) : Int) = ((m.aw.length : Nat) : Int)) = decide (l.length = m.aw.length) := by rw [decide_eq_decide]; omega
    rw [e1, e2, e3]
    simp only [Option.bind_some, Bool.not_true, cond_false, Bool.true_and]
    cases h1 : (decide (0 ≤ i) && decide (i < m.p)) with
    | false => rfl
    | true =>
      cases h2 : (decide (0 ≤ o) && decide (o < m.p)) with
      | false => rfl
      | true =>
        by_cases hln : l.length = m.aw.length
        · rw [decide_eq_true hln]
          simp only [Option.bind_some, Bool.not_true, cond_false, Bool.true_and]
          rw [Bool.and_eq_true, decide_eq_true_eq, decide_eq_true_eq] at h1 h2
          obtain ⟨n, hn⟩ : ∃ n : Nat, m.p = (n : Int) := ⟨m.p.toNat, by omega⟩
          have hpn : m.p.toNat = n := by omega
          rw [hpn, hn, sized_at (by omega)]
          rw [loop_allS (B := p_spec_FlowOk_L0 m l n) (fun k => ((k : Int), flow0 m l n k)) (fun k => fitB (gx l k)) l.length (.inl (row1 n fun v => dv (eM m) (gx l) v)) (.inr false) (by
            have : flow0 m l n 0 = List.replicate n 0 := by unfold flow0; rw [row1_zero]; rfl
            rw [this]; rfl) (fun k hk hq => by
            simp only [p_spec_FlowOk_L0]
            have A := ok.aw k (by omega)
            obtain ⟨a, ha⟩ := Int.eq_ofNat_of_zero_le A.f0
            obtain ⟨b, hb⟩ := Int.eq_ofNat_of_zero_le A.t0
            have f1 := A.f1; have t1 := A.t1
            rw [decide_eq_true (by omega), idx_at hk, l_l1In]
            have ef : (decide (-9999999 ≤ gx l k) && decide (gx l k ≤ 9999999)) = fitB (gx l k) := rfl
            rw [ef]
            cases hbk : fitB (gx l k) with
            | false => rfl
            | true =>
              have := flow_set (l := l) (n := n) ok (show k < m.aw.length by omega) (by omega) (by omega) (fun i hi => by
                by_cases e : i = k
                · subst e; unfold fitB at hbk; simpa using hbk
                · have := hq i (by omega); unfold fitB at this; simpa using this) ha hb
              simp only [cond_true, Option.bind_some, Bool.not_true, cond_false]
              rw [idx_at (by omega), idx_eq ha (by omega), idx_eq hb (by omega), w64_succ (by omega), this]) (fun _ => by
            simp only [p_spec_FlowOk_L0]
            rw [decide_eq_false (by omega), hln, flow_last]; rfl)]
          unfold fits
          cases hall : (List.range l.length).all (fun k => fitB (gx l k)) with
          | false => rfl
          | true =>
            have hft := fits_at (l := l) hall
            simp only [cond_true, Option.bind_some]
            obtain ⟨a, ha⟩ := Int.eq_ofNat_of_zero_le h1.1
            obtain ⟨b, hb⟩ := Int.eq_ofNat_of_zero_le h2.1
            have han : a < n := by omega
            have hbn : b < n := by omega
            rw [idx_eq ha han, idx_eq hb hbn]
            have bdv : ∀ v, -69999993 ≤ dv (eM m) (gx l) v ∧ dv (eM m) (gx l) v ≤ 69999993 := by
              intro v
              have := dv_bd (m := m) (l := l) (k := m.aw.length) (v := v) (Nat.le_refl _) (fun i hi => hft i (by omega))
              rw [List.take_of_length_le (by rw [eM_len]; omega)] at this
              omega
            have ba := bdv a; have bb := bdv b
            have hset : (((row1 n fun v => dv (eM m) (gx l) v).set a (w64 (gx (row1 n fun v => dv (eM m) (gx l) v) a - K))).set b (w64 (gx ((row1 n fun v => dv (eM m) (gx l) v).set a (w64 (gx (row1 n fun v => dv (eM m) (gx l) v) a - K))) b + K))) = row1 n fun v => dv (eM m) (gx l) v - K * src a b v := by
              rw [row1_gx han, row1_set han, row1_gx hbn, row1_set hbn, w64_in (x := dv (eM m) (gx l) a - K) (by omega) (by omega)]
              apply row1_ext; intro v hv'
              unfold src
              by_cases h5 : v = b
              · subst h5
                rw [if_pos rfl, if_pos rfl]
                by_cases h6 : v = a
                · subst h6; rw [if_pos rfl, if_pos rfl, w64_in (by omega) (by omega)]; omega
                · rw [if_neg h6, if_neg h6, w64_in (by omega) (by omega)]; omega
              · rw [if_neg h5, if_neg h5]
                by_cases h6 : v = a
                · subst h6; rw [if_pos rfl, if_pos rfl]; omega
                · rw [if_neg h6, if_neg h6]; omega
            rw [loop_all (B := p_spec_FlowOk_L1 K n (row1 n fun v => dv (eM m) (gx l) v) a b) (fun v => decide (dv (eM m) (gx l) v = K * src i.toNat o.toNat v)) n false (fun v hv' => by
              simp only [p_spec_FlowOk_L1]
              rw [decide_eq_true (by omega), idx_at hv', hset, row1_gx hv', w64_succ (by omega), ha, hb, Int.toNat_natCast, Int.toNat_natCast]
              simp only [cond_true, bne_dec]
              have : decide (dv (eM m) (gx l) v - K * src a b v = 0) = decide (dv (eM m) (gx l) v = K * src a b v) := by rw [decide_eq_decide]; omega
              rw [this]
              cases decide (dv (eM m) (gx l) v = K * src a b v) <;> rfl) (by simp only [p_spec_FlowOk_L1]; rw [decide_eq_false (by omega)]; rfl)]
            cases (List.range n).all (fun v => decide (dv (eM m) (gx l) v = K * src i.toNat o.toNat v)) <;> rfl
        · rw [decide_eq_false hln]; rfl
end Go.Proofs.YtpfijnklnljccaaDoor
