/- Plain functions: parts, surveys. -/
import Derived.Test.YtfgialdcilldiaaPc
namespace Go.Proofs.Ytfgialdcilldiaa
open Go
set_option linter.unusedVariables false
set_option linter.unusedSimpArgs false

structure Leg where
  f : Int
  t : Int
  e : Int
  n : Int
  u : Int
deriving DecidableEq, Inhabited
def encLeg (v : Leg) : List Value := [.int .i64 v.f, .int .i64 v.t, .int .i64 v.e, .int .i64 v.n, .int .i64 v.u]
def decLeg (l : List Int) : Leg := ⟨l.getD 0 0, l.getD 1 0, l.getD 2 0, l.getD 3 0, l.getD 4 0⟩
theorem decLeg_ok (ns : List Int) (h : ns.length = 5) : encLeg (decLeg ns) = ns.map (fun n => .int .i64 n) := by
  match ns, h with
  | [a, b, c, d, e], _ => rfl
structure LegOk (s : Int) (g : Leg) : Prop where
  f0 : 0 ≤ g.f
  f1 : g.f < s
  t0 : 0 ≤ g.t
  t1 : g.t < s
  ne : g.f ≠ g.t
  e0 : -99 ≤ g.e
  e1 : g.e ≤ 99
  n0 : -99 ≤ g.n
  n1 : g.n ≤ 99
  u0 : -99 ≤ g.u
  u1 : g.u ≤ 99
structure SurveyOk (s : Int) (L : List Leg) : Prop where
  s1 : 1 ≤ s
  s6 : s ≤ 6
  n9 : L.length ≤ 9
  lg : ∀ k, k < L.length → LegOk s (gx L k)
theorem survey_last {s : Int} {L : List Leg} (h1 : 1 ≤ s) (h6 : s ≤ 6) (h : ∀ k, k < L.length → LegOk s (gx L k)) : dec (SurveyOk s L) = decide (L.length ≤ 9) := by
  by_cases q : L.length ≤ 9
  · rw [decide_eq_true q, dec_t ⟨h1, h6, q, h⟩]
  · rw [decide_eq_false q, dec_f (fun h => q h.n9)]

/-! ### Parts -/
def ownL (n : Nat) : List Int := (List.range n).map (fun i : Nat => (i : Int))
theorem ownL_len {n : Nat} : (ownL n).length = n := by simp [ownL]
theorem ownL_gx {n i : Nat} (h : i < n) : gx (ownL n) i = (i : Int) := by unfold ownL; rw [gx_range h]
theorem ownL_succ {n : Nat} : ownL (n + 1) = ownL n ++ [(n : Int)] := by unfold ownL; rw [List.range_succ, List.map_append]; rfl
def joinP (L : List Int) (a b : Nat) : List Int := L.map (fun x => if x = max (gx L a) (gx L b) then min (gx L a) (gx L b) else x)
theorem joinP_len {L : List Int} {a b : Nat} : (joinP L a b).length = L.length := by simp [joinP]
theorem joinP_gx {L : List Int} {a b i : Nat} (h : i < L.length) : gx (joinP L a b) i = if gx L i = max (gx L a) (gx L b) then min (gx L a) (gx L b) else gx L i := by
  rw [gx_eq (by rw [joinP_len]; exact h), gx_eq h]; simp [joinP]
theorem joinP_same {L : List Int} {a b : Nat} (h : min (gx L a) (gx L b) = max (gx L a) (gx L b)) : joinP L a b = L := by
  apply gx_ext joinP_len
  intro k hk
  rw [joinP_len] at hk
  rw [joinP_gx hk]
  split <;> omega
def partsTo (n : Nat) (ends : Nat → Nat × Nat) : Nat → List Int
  | 0 => ownL n
  | k + 1 => joinP (partsTo n ends k) (ends k).1 (ends k).2
theorem partsTo_len {n : Nat} {ends : Nat → Nat × Nat} : ∀ {k : Nat}, (partsTo n ends k).length = n
  | 0 => ownL_len
  | k + 1 => by rw [partsTo, joinP_len, partsTo_len]
theorem partsTo_congr {n : Nat} {e1 e2 : Nat → Nat × Nat} : ∀ {k : Nat}, (∀ i, i < k → e1 i = e2 i) → partsTo n e1 k = partsTo n e2 k
  | 0, _ => rfl
  | k + 1, h => by rw [partsTo, partsTo, partsTo_congr (fun i hi => h i (by omega)), h k (by omega)]
def aends (l : List Airway) (k : Nat) : Nat × Nat := ((gx l k).f.toNat, (gx l k).t.toNat)
def lends (L : List Leg) (k : Nat) : Nat × Nat := ((gx L k).f.toNat, (gx L k).t.toNat)
def sends (S : List Sill) (k : Nat) : Nat × Nat := ((gx S k).a.toNat, (gx S k).b.toNat)
def uends (e : Nat → Nat × Nat) (use : List Int) (k : Nat) : Nat × Nat := e (gx use k).toNat
def countTo (L : List Int) : Nat → Int
  | 0 => 0
  | k + 1 => countTo L k + (if gx L k = (k : Int) then 1 else 0)
theorem countTo_bd {L : List Int} : ∀ {k : Nat}, 0 ≤ countTo L k ∧ countTo L k ≤ k
  | 0 => by simp [countTo]
  | k + 1 => by
    have := countTo_bd (L := L) (k := k)
    simp only [countTo]; split <;> omega
theorem countTo_t {L : List Int} {k : Nat} (h : gx L k = (k : Int)) : countTo L k + 1 = countTo L (k + 1) := by simp [countTo, h]
theorem countTo_f {L : List Int} {k : Nat} (h : ¬ gx L k = (k : Int)) : countTo L k = countTo L (k + 1) := by simp [countTo, h]
def Linked (n : Nat) (ends : Nat → Nat × Nat) (m : Nat) : Prop := countTo (partsTo n ends m) n = 1
structure AirLinkedP (p : Int) (l : List Airway) : Prop where
  ok : MineOk p l
  one : Linked p.toNat (aends l) l.length
def legOf (v : Airway) : Leg := ⟨v.f, v.t, 0, 0, 0⟩
def legsOf (l : List Airway) : List Leg := l.map legOf
theorem legsOf_len {l : List Airway} : (legsOf l).length = l.length := by simp [legsOf]
theorem legsOf_gx {l : List Airway} {k : Nat} (h : k < l.length) : gx (legsOf l) k = legOf (gx l k) := by
  rw [gx_eq (by rw [legsOf_len]; exact h), gx_eq h]; simp [legsOf]
theorem legsOf_ends {l : List Airway} {k : Nat} (h : k < l.length) : lends (legsOf l) k = aends l k := by
  unfold lends aends; rw [legsOf_gx h]; rfl
theorem legsOf_ok {p : Int} {l : List Airway} (h : MineOk p l) : SurveyOk p (legsOf l) := by
  refine ⟨h.p1, by have := h.p5; omega, by rw [legsOf_len]; have := h.n7; omega, fun k hk => ?_⟩
  rw [legsOf_len] at hk
  rw [legsOf_gx hk]
  obtain ⟨a1, a2, a3, a4, a5, a6, a7⟩ := h.aw k hk
  have z : ∀ x : Int, x = 0 → -99 ≤ x ∧ x ≤ 99 := fun x h => by omega
  exact ⟨a1, a2, a3, a4, a5, (z _ rfl).1, (z _ rfl).2, (z _ rfl).1, (z _ rfl).2, (z _ rfl).1, (z _ rfl).2⟩
noncomputable def partsR (s : Int) (L : List Leg) : List Int := if dec (SurveyOk s L) then partsTo s.toNat (lends L) L.length else []
theorem partsR_t {s : Int} {L : List Leg} (h : SurveyOk s L) : partsR s L = partsTo s.toNat (lends L) L.length := by simp [partsR, dec_t h]
theorem partsR_f {s : Int} {L : List Leg} (h : ¬ SurveyOk s L) : partsR s L = [] := by simp [partsR, dec_f h]
noncomputable def partsMany (s : Int) (L : List Leg) : Int := if dec (SurveyOk s L) then countTo (partsTo s.toNat (lends L) L.length) s.toNat else -1
theorem partsMany_t {s : Int} {L : List Leg} (h : SurveyOk s L) : partsMany s L = countTo (partsTo s.toNat (lends L) L.length) s.toNat := by simp [partsMany, dec_t h]
theorem partsMany_f {s : Int} {L : List Leg} (h : ¬ SurveyOk s L) : partsMany s L = -1 := by simp [partsMany, dec_f h]
theorem uends_own {e : Nat → Nat × Nat} {n i : Nat} (h : i < n) : uends e (ownL n) i = e i := by unfold uends; rw [ownL_gx h]; simp
theorem parts_all {n m : Nat} {e : Nat → Nat × Nat} : partsTo n (uends e (ownL m)) m = partsTo n e m := partsTo_congr (fun i hi => uends_own hi)
theorem airParts {p : Int} {l : List Airway} : partsTo p.toNat (lends (legsOf l)) (legsOf l).length = partsTo p.toNat (aends l) l.length := by
  rw [legsOf_len]; exact partsTo_congr (fun i hi => legsOf_ends hi)

theorem airLinked_eq {p : Int} {l : List Airway} (h : MineOk p l) : (countTo (partsTo p.toNat (aends l) l.length) p.toNat == 1) = dec (AirLinkedP p l) := by
  by_cases q : countTo (partsTo p.toNat (aends l) l.length) p.toNat = 1
  · rw [dec_t ⟨h, q⟩]; simpa using q
  · rw [dec_f (fun g => q g.one)]; simpa using q
theorem airLinked_eq2 {p : Int} {l : List Airway} (h : MineOk p l) : (partsMany p (legsOf l) == 1) = dec (AirLinkedP p l) := by
  rw [partsMany_t (legsOf_ok h), airParts]; exact airLinked_eq h
theorem legs_snoc {l : List Airway} {k : Nat} (h : k < l.length) : ((legsOf l).take k).map encLeg ++ [encLeg (legOf (gx l k))] = ((legsOf l).take (k + 1)).map encLeg := by
  rw [take_gx (l := legsOf l) (by rw [legsOf_len]; exact h), List.map_append, legsOf_gx h]; rfl
theorem ownL_snoc {k : Nat} : (ownL k).map encI ++ [encI (k : Int)] = (ownL (k + 1)).map encI := by
  rw [ownL_succ, List.map_append]; rfl
/-! ### Rules for lists that are overwritten -/
theorem mixi_get {M L : List Int} {k : Nat} (h : M.length = L.length) (hk : k < L.length) : ((mixL M L k).map encI)[k]? = some (encI (gx L k)) := mix_get h hk
theorem mixi_set {M L : List Int} {k : Nat} {x : Int} (h : M.length = L.length) (hk : k < L.length) (hx : x = gx M k) : ((mixL M L k).set k x).map encI = (mixL M L (k + 1)).map encI := by
  rw [← mix_set (f := encI) h hk rfl, hx]; exact (map_set' rfl).symm
theorem mixi_skip {M L : List Int} {k : Nat} (h : M.length = L.length) (hk : k < L.length) (hx : gx L k = gx M k) : (mixL M L k).map encI = (mixL M L (k + 1)).map encI := by
  rw [← mix_set (f := encI) h hk rfl, ← hx]
  apply (List.ext_getElem?) ; intro i
  by_cases e : i = k
  · subst e
    rw [mixi_get h hk, get_set_self (by rw [List.length_map, mix_len h]; exact hk)]
  · rw [List.getElem?_set_ne (Ne.symm e)]
theorem vb {b : Bool} {p : Prop} (h : b = true ↔ p) : Value.bool b = .bool (dec p) := by
  cases b
  · rw [dec_f (fun q => by simpa using h.2 q)]
  · rw [dec_t (h.1 rfl)]
theorem inR_iff {x a b : Int} : inR x a b = true ↔ a ≤ x ∧ x ≤ b := by simp [inR]
theorem ownL_ix {n : Nat} : AreIx (ownL n) n := by
  intro k hk; rw [ownL_len] at hk; rw [ownL_gx hk]; omega
theorem partsR_len {s : Int} {L : List Leg} (h : SurveyOk s L) : (partsR s L).length = s.toNat := by rw [partsR_t h, partsTo_len]
theorem one_lit (vs : List Value) (h : (vs.all fun v => v.cells.toList.all Value.oneCell') = true) : ∀ e ∈ vs.map (fun v => v.cells.toList), ∀ u ∈ e, u.oneCell' = true := by
  intro e he u hu
  obtain ⟨v, hv, rfl⟩ := List.mem_map.1 he
  exact List.all_eq_true.1 (List.all_eq_true.1 h v hv) u hu
theorem one_leg {l : List Leg} : ∀ e ∈ l.map encLeg, ∀ u ∈ e, u.oneCell' = true := by
  intro e he; obtain ⟨x, _, rfl⟩ := List.mem_map.1 he; simp [encLeg, Value.oneCell']
end Go.Proofs.Ytfgialdcilldiaa
