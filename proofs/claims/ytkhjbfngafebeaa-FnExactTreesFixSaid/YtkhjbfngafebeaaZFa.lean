/- Facts of the program's types; no condition. -/
import Derived.Test.YtkhjbfngafebeaaZDa
import Derived.Test.YtkhjbfngafebeaaProg
namespace Go.Proofs.Ytkhjbfngafebeaa
open Go
set_option linter.unusedSimpArgs false

theorem drawMixed : Try.prog.follows .mixedOrders = true := by kernel_rfl
theorem fa_24_0 : FieldAt Try.prog 24 0 0 := by
  intro a w
  simp [Instr.fieldAt, Try.runUnderlying24, Instr.sureAddr, fieldPlace, Try.sizeOf3]
theorem fa_24_1 : FieldAt Try.prog 24 1 1 := by
  intro a w
  simp [Instr.fieldAt, Try.runUnderlying24, Instr.sureAddr, fieldPlace, Try.sizeOf22]
theorem fa_28_0 : FieldAt Try.prog 28 0 0 := by
  intro a w
  simp [Instr.fieldAt, Try.runUnderlying28, Instr.sureAddr, fieldPlace, Try.sizeOf3]
theorem fa_28_1 : FieldAt Try.prog 28 1 1 := by
  intro a w
  simp [Instr.fieldAt, Try.runUnderlying28, Instr.sureAddr, fieldPlace, Try.sizeOf26]
theorem fa_33_0 : FieldAt Try.prog 33 0 0 := by
  intro a w
  simp [Instr.fieldAt, Try.runUnderlying33, Instr.sureAddr, fieldPlace, Try.sizeOf3]
theorem fa_33_1 : FieldAt Try.prog 33 1 1 := by
  intro a w
  simp [Instr.fieldAt, Try.runUnderlying33, Instr.sureAddr, fieldPlace, Try.sizeOf31]
theorem fa_55_0 : FieldAt Try.prog 55 0 0 := by
  intro a w
  simp [Instr.fieldAt, Try.runUnderlying55, Instr.sureAddr, fieldPlace, Try.sizeOf3]
theorem fa_55_1 : FieldAt Try.prog 55 1 1 := by
  intro a w
  simp [Instr.fieldAt, Try.runUnderlying55, Instr.sureAddr, fieldPlace, Try.sizeOf3]
theorem fa_55_2 : FieldAt Try.prog 55 2 2 := by
  intro a w
  simp [Instr.fieldAt, Try.runUnderlying55, Instr.sureAddr, fieldPlace, Try.sizeOf3]
theorem fa_58_0 : FieldAt Try.prog 58 0 0 := by
  intro a w
  simp [Instr.fieldAt, Try.runUnderlying58, Instr.sureAddr, fieldPlace, Try.sizeOf3]
theorem fa_58_1 : FieldAt Try.prog 58 1 1 := by
  intro a w
  simp [Instr.fieldAt, Try.runUnderlying58, Instr.sureAddr, fieldPlace, Try.sizeOf3]
theorem fa_58_2 : FieldAt Try.prog 58 2 2 := by
  intro a w
  simp [Instr.fieldAt, Try.runUnderlying58, Instr.sureAddr, fieldPlace, Try.sizeOf3]
theorem fa_58_3 : FieldAt Try.prog 58 3 3 := by
  intro a w
  simp [Instr.fieldAt, Try.runUnderlying58, Instr.sureAddr, fieldPlace, Try.sizeOf3]
theorem fa_58_4 : FieldAt Try.prog 58 4 4 := by
  intro a w
  simp [Instr.fieldAt, Try.runUnderlying58, Instr.sureAddr, fieldPlace, Try.sizeOf3]
theorem fa_74_0 : FieldAt Try.prog 74 0 0 := by
  intro a w
  simp [Instr.fieldAt, Try.runUnderlying74, Instr.sureAddr, fieldPlace, Try.sizeOf3]
theorem fa_74_1 : FieldAt Try.prog 74 1 1 := by
  intro a w
  simp [Instr.fieldAt, Try.runUnderlying74, Instr.sureAddr, fieldPlace, Try.sizeOf3]
theorem fa_74_2 : FieldAt Try.prog 74 2 2 := by
  intro a w
  simp [Instr.fieldAt, Try.runUnderlying74, Instr.sureAddr, fieldPlace, Try.sizeOf3]
theorem fa_74_3 : FieldAt Try.prog 74 3 3 := by
  intro a w
  simp [Instr.fieldAt, Try.runUnderlying74, Instr.sureAddr, fieldPlace, Try.sizeOf3]
theorem fa_74_4 : FieldAt Try.prog 74 4 4 := by
  intro a w
  simp [Instr.fieldAt, Try.runUnderlying74, Instr.sureAddr, fieldPlace, Try.sizeOf3]
theorem fa_100_0 : FieldAt Try.prog 100 0 0 := by
  intro a w
  simp [Instr.fieldAt, Try.runUnderlying100, Instr.sureAddr, fieldPlace, Try.sizeOf3]
theorem fa_100_1 : FieldAt Try.prog 100 1 1 := by
  intro a w
  simp [Instr.fieldAt, Try.runUnderlying100, Instr.sureAddr, fieldPlace, Try.sizeOf4]
theorem pl_28 : ∀ w, (#[{ name := "Den", type := 3, offset := 0, embedded := false, tag := "", pkgPath := "", byteOffset := 0 }, { name := "Nums", type := 26, offset := 1, embedded := false, tag := "", pkgPath := "", byteOffset := 8 }].mapM (fun (f : Field) => (do pure (f.offset, ← sizeOf f.type) : Sem (Nat × Nat)))).run Try.prog w = .ok #[(0, 1), (1, 1)] w := by
  intro w
  simp [Try.sizeOf26, Try.sizeOf3]
theorem pl_33 : ∀ w, (#[{ name := "Stations", type := 3, offset := 0, embedded := false, tag := "", pkgPath := "", byteOffset := 0 }, { name := "Legs", type := 31, offset := 1, embedded := false, tag := "", pkgPath := "", byteOffset := 8 }].mapM (fun (f : Field) => (do pure (f.offset, ← sizeOf f.type) : Sem (Nat × Nat)))).run Try.prog w = .ok #[(0, 1), (1, 1)] w := by
  intro w
  simp [Try.sizeOf3, Try.sizeOf31]
theorem pl_55 : ∀ w, (#[{ name := "East", type := 3, offset := 0, embedded := false, tag := "", pkgPath := "", byteOffset := 0 }, { name := "North", type := 3, offset := 1, embedded := false, tag := "", pkgPath := "", byteOffset := 8 }, { name := "Up", type := 3, offset := 2, embedded := false, tag := "", pkgPath := "", byteOffset := 16 }].mapM (fun (f : Field) => (do pure (f.offset, ← sizeOf f.type) : Sem (Nat × Nat)))).run Try.prog w = .ok #[(0, 1), (1, 1), (2, 1)] w := by
  intro w
  simp [Try.sizeOf3]
theorem pl_58 : ∀ w, (#[{ name := "From", type := 3, offset := 0, embedded := false, tag := "", pkgPath := "", byteOffset := 0 }, { name := "To", type := 3, offset := 1, embedded := false, tag := "", pkgPath := "", byteOffset := 8 }, { name := "East", type := 3, offset := 2, embedded := false, tag := "", pkgPath := "", byteOffset := 16 }, { name := "North", type := 3, offset := 3, embedded := false, tag := "", pkgPath := "", byteOffset := 24 }, { name := "Up", type := 3, offset := 4, embedded := false, tag := "", pkgPath := "", byteOffset := 32 }].mapM (fun (f : Field) => (do pure (f.offset, ← sizeOf f.type) : Sem (Nat × Nat)))).run Try.prog w = .ok #[(0, 1), (1, 1), (2, 1), (3, 1), (4, 1)] w := by
  intro w
  simp [Try.sizeOf3]
theorem pl_100 : ∀ w, (#[{ name := "Index", type := 3, offset := 0, embedded := false, tag := "", pkgPath := "", byteOffset := 0 }, { name := "Back", type := 4, offset := 1, embedded := false, tag := "", pkgPath := "", byteOffset := 8 }].mapM (fun (f : Field) => (do pure (f.offset, ← sizeOf f.type) : Sem (Nat × Nat)))).run Try.prog w = .ok #[(0, 1), (1, 1)] w := by
  intro w
  simp [Try.sizeOf3, Try.sizeOf4]

end Go.Proofs.Ytkhjbfngafebeaa
