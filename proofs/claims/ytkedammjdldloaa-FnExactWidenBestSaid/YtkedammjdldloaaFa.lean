/- Facts of the program's types; no condition. -/
import Derived.Test.YtkedammjdldloaaDa
import Derived.Test.YtkedammjdldloaaProg
namespace Go.Proofs.Ytkedammjdldloaa
open Go
set_option linter.unusedSimpArgs false

theorem drawMixed : Try.prog.follows .mixedOrders = true := by kernel_rfl
theorem fa_24_0 : FieldAt Try.prog 24 0 0 := by
  intro a w
  simp [Instr.fieldAt, Try.runUnderlying24, Instr.sureAddr, fieldPlace, Try.sizeOf3]
theorem fa_24_1 : FieldAt Try.prog 24 1 1 := by
  intro a w
  simp [Instr.fieldAt, Try.runUnderlying24, Instr.sureAddr, fieldPlace, Try.sizeOf22]
theorem fa_29_0 : FieldAt Try.prog 29 0 0 := by
  intro a w
  simp [Instr.fieldAt, Try.runUnderlying29, Instr.sureAddr, fieldPlace, Try.sizeOf3]
theorem fa_29_1 : FieldAt Try.prog 29 1 1 := by
  intro a w
  simp [Instr.fieldAt, Try.runUnderlying29, Instr.sureAddr, fieldPlace, Try.sizeOf27]
theorem fa_37_0 : FieldAt Try.prog 37 0 0 := by
  intro a w
  simp [Instr.fieldAt, Try.runUnderlying37, Instr.sureAddr, fieldPlace, Try.sizeOf3]
theorem fa_37_1 : FieldAt Try.prog 37 1 1 := by
  intro a w
  simp [Instr.fieldAt, Try.runUnderlying37, Instr.sureAddr, fieldPlace, Try.sizeOf35]
theorem fa_43_0 : FieldAt Try.prog 43 0 0 := by
  intro a w
  simp [Instr.fieldAt, Try.runUnderlying43, Instr.sureAddr, fieldPlace, Try.sizeOf3]
theorem fa_43_1 : FieldAt Try.prog 43 1 1 := by
  intro a w
  simp [Instr.fieldAt, Try.runUnderlying43, Instr.sureAddr, fieldPlace, Try.sizeOf41]
theorem fa_51_0 : FieldAt Try.prog 51 0 0 := by
  intro a w
  simp [Instr.fieldAt, Try.runUnderlying51, Instr.sureAddr, fieldPlace, Try.sizeOf3]
theorem fa_51_1 : FieldAt Try.prog 51 1 1 := by
  intro a w
  simp [Instr.fieldAt, Try.runUnderlying51, Instr.sureAddr, fieldPlace, Try.sizeOf3]
theorem fa_64_0 : FieldAt Try.prog 64 0 0 := by
  intro a w
  simp [Instr.fieldAt, Try.runUnderlying64, Instr.sureAddr, fieldPlace, Try.sizeOf3]
theorem fa_64_1 : FieldAt Try.prog 64 1 1 := by
  intro a w
  simp [Instr.fieldAt, Try.runUnderlying64, Instr.sureAddr, fieldPlace, Try.sizeOf62]
theorem fa_81_0 : FieldAt Try.prog 81 0 0 := by
  intro a w
  simp [Instr.fieldAt, Try.runUnderlying81, Instr.sureAddr, fieldPlace, Try.sizeOf3]
theorem fa_81_1 : FieldAt Try.prog 81 1 1 := by
  intro a w
  simp [Instr.fieldAt, Try.runUnderlying81, Instr.sureAddr, fieldPlace, Try.sizeOf3]
theorem fa_81_2 : FieldAt Try.prog 81 2 2 := by
  intro a w
  simp [Instr.fieldAt, Try.runUnderlying81, Instr.sureAddr, fieldPlace, Try.sizeOf3]
theorem fa_105_0 : FieldAt Try.prog 105 0 0 := by
  intro a w
  simp [Instr.fieldAt, Try.runUnderlying105, Instr.sureAddr, fieldPlace, Try.sizeOf3]
theorem fa_105_1 : FieldAt Try.prog 105 1 1 := by
  intro a w
  simp [Instr.fieldAt, Try.runUnderlying105, Instr.sureAddr, fieldPlace, Try.sizeOf3]
theorem fa_105_2 : FieldAt Try.prog 105 2 2 := by
  intro a w
  simp [Instr.fieldAt, Try.runUnderlying105, Instr.sureAddr, fieldPlace, Try.sizeOf3]
theorem fa_107_0 : FieldAt Try.prog 107 0 0 := by
  intro a w
  simp [Instr.fieldAt, Try.runUnderlying107, Instr.sureAddr, fieldPlace, Try.sizeOf3]
theorem fa_107_1 : FieldAt Try.prog 107 1 1 := by
  intro a w
  simp [Instr.fieldAt, Try.runUnderlying107, Instr.sureAddr, fieldPlace, Try.sizeOf3]
theorem fa_107_2 : FieldAt Try.prog 107 2 2 := by
  intro a w
  simp [Instr.fieldAt, Try.runUnderlying107, Instr.sureAddr, fieldPlace, Try.sizeOf3]
theorem fa_107_3 : FieldAt Try.prog 107 3 3 := by
  intro a w
  simp [Instr.fieldAt, Try.runUnderlying107, Instr.sureAddr, fieldPlace, Try.sizeOf3]
theorem fa_107_4 : FieldAt Try.prog 107 4 4 := by
  intro a w
  simp [Instr.fieldAt, Try.runUnderlying107, Instr.sureAddr, fieldPlace, Try.sizeOf3]
theorem fa_115_0 : FieldAt Try.prog 115 0 0 := by
  intro a w
  simp [Instr.fieldAt, Try.runUnderlying115, Instr.sureAddr, fieldPlace, Try.sizeOf3]
theorem fa_115_1 : FieldAt Try.prog 115 1 1 := by
  intro a w
  simp [Instr.fieldAt, Try.runUnderlying115, Instr.sureAddr, fieldPlace, Try.sizeOf3]
theorem fa_115_2 : FieldAt Try.prog 115 2 2 := by
  intro a w
  simp [Instr.fieldAt, Try.runUnderlying115, Instr.sureAddr, fieldPlace, Try.sizeOf3]
theorem fa_123_0 : FieldAt Try.prog 123 0 0 := by
  intro a w
  simp [Instr.fieldAt, Try.runUnderlying123, Instr.sureAddr, fieldPlace, Try.sizeOf3]
theorem fa_123_1 : FieldAt Try.prog 123 1 1 := by
  intro a w
  simp [Instr.fieldAt, Try.runUnderlying123, Instr.sureAddr, fieldPlace, Try.sizeOf3]
theorem fa_123_2 : FieldAt Try.prog 123 2 2 := by
  intro a w
  simp [Instr.fieldAt, Try.runUnderlying123, Instr.sureAddr, fieldPlace, Try.sizeOf3]
theorem fa_123_3 : FieldAt Try.prog 123 3 3 := by
  intro a w
  simp [Instr.fieldAt, Try.runUnderlying123, Instr.sureAddr, fieldPlace, Try.sizeOf3]
theorem fa_123_4 : FieldAt Try.prog 123 4 4 := by
  intro a w
  simp [Instr.fieldAt, Try.runUnderlying123, Instr.sureAddr, fieldPlace, Try.sizeOf3]
theorem fa_147_0 : FieldAt Try.prog 147 0 0 := by
  intro a w
  simp [Instr.fieldAt, Try.runUnderlying147, Instr.sureAddr, fieldPlace, Try.sizeOf3]
theorem fa_147_1 : FieldAt Try.prog 147 1 1 := by
  intro a w
  simp [Instr.fieldAt, Try.runUnderlying147, Instr.sureAddr, fieldPlace, Try.sizeOf4]
theorem pl_29 : ∀ w, (#[{ name := "Places", type := 3, offset := 0, embedded := false, tag := "", pkgPath := "", byteOffset := 0 }, { name := "Airways", type := 27, offset := 1, embedded := false, tag := "", pkgPath := "", byteOffset := 8 }].mapM (fun (f : Field) => (do pure (f.offset, ← sizeOf f.type) : Sem (Nat × Nat)))).run Try.prog w = .ok #[(0, 1), (1, 1)] w := by
  intro w
  simp [Try.sizeOf27, Try.sizeOf3]
theorem pl_43 : ∀ w, (#[{ name := "Stations", type := 3, offset := 0, embedded := false, tag := "", pkgPath := "", byteOffset := 0 }, { name := "Legs", type := 41, offset := 1, embedded := false, tag := "", pkgPath := "", byteOffset := 8 }].mapM (fun (f : Field) => (do pure (f.offset, ← sizeOf f.type) : Sem (Nat × Nat)))).run Try.prog w = .ok #[(0, 1), (1, 1)] w := by
  intro w
  simp [Try.sizeOf3, Try.sizeOf41]
theorem pl_51 : ∀ w, (#[{ name := "Num", type := 3, offset := 0, embedded := false, tag := "", pkgPath := "", byteOffset := 0 }, { name := "Den", type := 3, offset := 1, embedded := false, tag := "", pkgPath := "", byteOffset := 8 }].mapM (fun (f : Field) => (do pure (f.offset, ← sizeOf f.type) : Sem (Nat × Nat)))).run Try.prog w = .ok #[(0, 1), (1, 1)] w := by
  intro w
  simp [Try.sizeOf3]
theorem pl_64 : ∀ w, (#[{ name := "Den", type := 3, offset := 0, embedded := false, tag := "", pkgPath := "", byteOffset := 0 }, { name := "Nums", type := 62, offset := 1, embedded := false, tag := "", pkgPath := "", byteOffset := 8 }].mapM (fun (f : Field) => (do pure (f.offset, ← sizeOf f.type) : Sem (Nat × Nat)))).run Try.prog w = .ok #[(0, 1), (1, 1)] w := by
  intro w
  simp [Try.sizeOf3, Try.sizeOf62]
theorem pl_105 : ∀ w, (#[{ name := "East", type := 3, offset := 0, embedded := false, tag := "", pkgPath := "", byteOffset := 0 }, { name := "North", type := 3, offset := 1, embedded := false, tag := "", pkgPath := "", byteOffset := 8 }, { name := "Up", type := 3, offset := 2, embedded := false, tag := "", pkgPath := "", byteOffset := 16 }].mapM (fun (f : Field) => (do pure (f.offset, ← sizeOf f.type) : Sem (Nat × Nat)))).run Try.prog w = .ok #[(0, 1), (1, 1), (2, 1)] w := by
  intro w
  simp [Try.sizeOf3]
theorem pl_107 : ∀ w, (#[{ name := "From", type := 3, offset := 0, embedded := false, tag := "", pkgPath := "", byteOffset := 0 }, { name := "To", type := 3, offset := 1, embedded := false, tag := "", pkgPath := "", byteOffset := 8 }, { name := "East", type := 3, offset := 2, embedded := false, tag := "", pkgPath := "", byteOffset := 16 }, { name := "North", type := 3, offset := 3, embedded := false, tag := "", pkgPath := "", byteOffset := 24 }, { name := "Up", type := 3, offset := 4, embedded := false, tag := "", pkgPath := "", byteOffset := 32 }].mapM (fun (f : Field) => (do pure (f.offset, ← sizeOf f.type) : Sem (Nat × Nat)))).run Try.prog w = .ok #[(0, 1), (1, 1), (2, 1), (3, 1), (4, 1)] w := by
  intro w
  simp [Try.sizeOf3]
theorem pl_147 : ∀ w, (#[{ name := "Index", type := 3, offset := 0, embedded := false, tag := "", pkgPath := "", byteOffset := 0 }, { name := "Back", type := 4, offset := 1, embedded := false, tag := "", pkgPath := "", byteOffset := 8 }].mapM (fun (f : Field) => (do pure (f.offset, ← sizeOf f.type) : Sem (Nat × Nat)))).run Try.prog w = .ok #[(0, 1), (1, 1)] w := by
  intro w
  simp [Try.sizeOf3, Try.sizeOf4]

end Go.Proofs.Ytkedammjdldloaa
