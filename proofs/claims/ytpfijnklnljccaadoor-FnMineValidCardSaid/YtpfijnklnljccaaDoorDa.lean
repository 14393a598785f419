/- The data of the program, and how they lie in memory; no condition. -/
import Derived.Test.YtpfijnklnljccaaDoorKz
namespace Go.Proofs.YtpfijnklnljccaaDoor
open Go

structure Leg where
  f : Int
  t : Int
  e : Int
  n : Int
  u : Int
deriving DecidableEq, Inhabited
structure Way where
  e : Int
  n : Int
  u : Int
deriving DecidableEq, Inhabited
structure Step where
  i : Int
  b : Bool
deriving DecidableEq, Inhabited
structure Airway where
  f : Int
  t : Int
  w : Int
deriving DecidableEq, Inhabited
structure Frac where
  num : Int
  den : Int
deriving DecidableEq, Inhabited
structure Sill where
  a : Int
  b : Int
  high : Int
deriving DecidableEq, Inhabited
structure Survey where
  st : Int
  legs : List Leg
deriving DecidableEq, Inhabited
structure Fix where
  den : Int
  nums : List Way
deriving DecidableEq, Inhabited
structure Mine where
  p : Int
  aw : List Airway
deriving DecidableEq, Inhabited
structure Cave where
  fl : List Int
  ar : List Int
  si : List Sill
deriving DecidableEq, Inhabited
/-- A reader of a code: its bytes, and where it is. -/
structure Rd where
  b : List UInt8
  p : Int

def encB (v : UInt8) : List Value := [.int .u8 v.toNat]
def encT (v : Bool) : List Value := [.bool v]
def encLeg (v : Leg) : List Value := [.int .i64 v.f, .int .i64 v.t, .int .i64 v.e, .int .i64 v.n, .int .i64 v.u]
def encWay (v : Way) : List Value := [.int .i64 v.e, .int .i64 v.n, .int .i64 v.u]
def encStep (v : Step) : List Value := [.int .i64 v.i, .bool v.b]
def encAirway (v : Airway) : List Value := [.int .i64 v.f, .int .i64 v.t, .int .i64 v.w]
def encFrac (v : Frac) : List Value := [.int .i64 v.num, .int .i64 v.den]
def encSill (v : Sill) : List Value := [.int .i64 v.a, .int .i64 v.b, .int .i64 v.high]
theorem ok_encI (x : Int) : ∀ u ∈ encI x, u.oneCell' = true := by simp [encI, Value.oneCell']
theorem ok_encB (x : UInt8) : ∀ u ∈ encB x, u.oneCell' = true := by simp [encB, Value.oneCell']
theorem ok_encT (x : Bool) : ∀ u ∈ encT x, u.oneCell' = true := by simp [encT, Value.oneCell']
theorem ok_encLeg (x : Leg) : ∀ u ∈ encLeg x, u.oneCell' = true := by simp [encLeg, Value.oneCell']
theorem ok_encWay (x : Way) : ∀ u ∈ encWay x, u.oneCell' = true := by simp [encWay, Value.oneCell']
theorem ok_encStep (x : Step) : ∀ u ∈ encStep x, u.oneCell' = true := by simp [encStep, Value.oneCell']
theorem ok_encAirway (x : Airway) : ∀ u ∈ encAirway x, u.oneCell' = true := by simp [encAirway, Value.oneCell']
theorem ok_encFrac (x : Frac) : ∀ u ∈ encFrac x, u.oneCell' = true := by simp [encFrac, Value.oneCell']
theorem ok_encSill (x : Sill) : ∀ u ∈ encSill x, u.oneCell' = true := by simp [encSill, Value.oneCell']
def decLeg (l : List Int) : Leg := ⟨l.getD 0 0, l.getD 1 0, l.getD 2 0, l.getD 3 0, l.getD 4 0⟩
theorem decLeg_ok (ns : List Int) (h : ns.length = 5) : encLeg (decLeg ns) = ns.map (fun n => .int .i64 n) := by
  match ns, h with
  | [a, b, c, d, e], _ => rfl
def decAirway (l : List Int) : Airway := ⟨l.getD 0 0, l.getD 1 0, l.getD 2 0⟩
theorem decAirway_ok (ns : List Int) (h : ns.length = 3) : encAirway (decAirway ns) = ns.map (fun n => .int .i64 n) := by
  match ns, h with
  | [a, b, c], _ => rfl
end Go.Proofs.YtpfijnklnljccaaDoor
