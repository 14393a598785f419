/- Functions of the program as plain partial programs; no condition. -/
import Derived.Test.YtnibfmofkamjoaaDoorDa
namespace Go.Proofs.YtnibfmofkamjoaaDoor
open Go
set_option linter.unusedVariables false
set_option linter.unusedSimpArgs false

noncomputable def p_spec_l20Open (code0 : List UInt8) : O (Rd) := cond (decide (2000 < ((code0.length : Nat) : Int))) (cut code0.length 0 2000 fun j3 j4 => some (⟨(code0.drop j3).take (j4 - j3), 0⟩ : Rd)) (some (⟨code0, 0⟩ : Rd))


noncomputable def p_spec_l20Rd_pick (r0 : Rd) (n0 : Int) : O (Int × Int) := (cond (decide (n0 < 1)) (some true) (some (((r0.b.length : Nat) : Int) == 0))).bind fun x2 => cond x2 (some (0, w64 (r0.p + 1))) (cond (decide ((w64 ((w64 (r0.p + 1)) - 1)) < ((r0.b.length : Nat) : Int))) (idx r0.b.length (w64 ((w64 (r0.p + 1)) - 1)) fun j12 => need (n0 ≠ 0) <| some (Int.tmod (w64 ((gx r0.b j12).toNat : Int)) n0, w64 (r0.p + 1))) (need (((r0.b.length : Nat) : Int) ≠ 0) <| idx r0.b.length (Int.tmod (w64 ((w64 (r0.p + 1)) - 1)) ((r0.b.length : Nat) : Int)) fun j15 => need (((r0.b.length : Nat) : Int) ≠ 0) <| idx r0.b.length (Int.tmod (w64 ((w64 ((w64 ((w64 (r0.p + 1)) - 1)) * 7)) + 3)) ((r0.b.length : Nat) : Int)) fun j17 => need (((r0.b.length : Nat) : Int) ≠ 0) <| need (n0 ≠ 0) <| some (Int.tmod (IntKind.i64.wrap (BitVec.ofInt IntKind.i64.bits (w64 ((w64 ((w64 ((w64 ((w64 ((gx r0.b j15).toNat : Int)) * 131)) + (w64 ((w64 ((gx r0.b j17).toNat : Int)) * 1117)))) + (w64 ((w64 ((w64 (r0.p + 1)) - 1)) * 29)))) + (w64 ((w64 (Int.tdiv (w64 ((w64 (r0.p + 1)) - 1)) ((r0.b.length : Nat) : Int))) * 53)))) ^^^ BitVec.ofInt IntKind.i64.bits (w64 (Int.tdiv (w64 ((w64 ((w64 ((w64 ((w64 ((gx r0.b j15).toNat : Int)) * 131)) + (w64 ((w64 ((gx r0.b j17).toNat : Int)) * 1117)))) + (w64 ((w64 ((w64 (r0.p + 1)) - 1)) * 29)))) + (w64 ((w64 (Int.tdiv (w64 ((w64 (r0.p + 1)) - 1)) ((r0.b.length : Nat) : Int))) * 53)))) 64))).toNat) n0, w64 (r0.p + 1))))


noncomputable def p_spec_l20Rd_odd (r0 : Rd) (n0 : Int) : O (Bool × Int) := cond (decide (0 < n0)) ((p_spec_l20Rd_pick (⟨r0.b, r0.p⟩ : Rd) n0).bind fun (v4, v5) => some (v4 == (w64 (n0 - 1)), v5)) (some (false, r0.p))


end Go.Proofs.YtnibfmofkamjoaaDoor
