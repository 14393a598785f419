/- Facts of the program's types; no condition. -/
import Derived.Test.YtkedammjdldloaaDoorDa
import Derived.Test.YtkedammjdldloaaDoorProg
namespace Go.Proofs.YtkedammjdldloaaDoor
open Go
set_option linter.unusedSimpArgs false

theorem drawMixed : Tryd.prog.follows .mixedOrders = true := by kernel_rfl
theorem fa_32_0 : FieldAt Tryd.prog 32 0 0 := by
  intro a w
  simp [Instr.fieldAt, Tryd.runUnderlying32, Instr.sureAddr, fieldPlace, Tryd.sizeOf3]
theorem fa_32_1 : FieldAt Tryd.prog 32 1 1 := by
  intro a w
  simp [Instr.fieldAt, Tryd.runUnderlying32, Instr.sureAddr, fieldPlace, Tryd.sizeOf30]
theorem fa_39_0 : FieldAt Tryd.prog 39 0 0 := by
  intro a w
  simp [Instr.fieldAt, Tryd.runUnderlying39, Instr.sureAddr, fieldPlace, Tryd.sizeOf3]
theorem fa_39_1 : FieldAt Tryd.prog 39 1 1 := by
  intro a w
  simp [Instr.fieldAt, Tryd.runUnderlying39, Instr.sureAddr, fieldPlace, Tryd.sizeOf3]
theorem fa_52_0 : FieldAt Tryd.prog 52 0 0 := by
  intro a w
  simp [Instr.fieldAt, Tryd.runUnderlying52, Instr.sureAddr, fieldPlace, Tryd.sizeOf3]
theorem fa_52_1 : FieldAt Tryd.prog 52 1 1 := by
  intro a w
  simp [Instr.fieldAt, Tryd.runUnderlying52, Instr.sureAddr, fieldPlace, Tryd.sizeOf3]
theorem fa_52_2 : FieldAt Tryd.prog 52 2 2 := by
  intro a w
  simp [Instr.fieldAt, Tryd.runUnderlying52, Instr.sureAddr, fieldPlace, Tryd.sizeOf3]
theorem fa_52_3 : FieldAt Tryd.prog 52 3 3 := by
  intro a w
  simp [Instr.fieldAt, Tryd.runUnderlying52, Instr.sureAddr, fieldPlace, Tryd.sizeOf3]
theorem fa_52_4 : FieldAt Tryd.prog 52 4 4 := by
  intro a w
  simp [Instr.fieldAt, Tryd.runUnderlying52, Instr.sureAddr, fieldPlace, Tryd.sizeOf3]
theorem fa_57_0 : FieldAt Tryd.prog 57 0 0 := by
  intro a w
  simp [Instr.fieldAt, Tryd.runUnderlying57, Instr.sureAddr, fieldPlace, Tryd.sizeOf3]
theorem fa_57_1 : FieldAt Tryd.prog 57 1 1 := by
  intro a w
  simp [Instr.fieldAt, Tryd.runUnderlying57, Instr.sureAddr, fieldPlace, Tryd.sizeOf3]
theorem fa_57_2 : FieldAt Tryd.prog 57 2 2 := by
  intro a w
  simp [Instr.fieldAt, Tryd.runUnderlying57, Instr.sureAddr, fieldPlace, Tryd.sizeOf3]
theorem fa_66_0 : FieldAt Tryd.prog 66 0 0 := by
  intro a w
  simp [Instr.fieldAt, Tryd.runUnderlying66, Instr.sureAddr, fieldPlace, Tryd.sizeOf22]
theorem fa_66_1 : FieldAt Tryd.prog 66 1 1 := by
  intro a w
  simp [Instr.fieldAt, Tryd.runUnderlying66, Instr.sureAddr, fieldPlace, Tryd.sizeOf3]
theorem fa_72_0 : FieldAt Tryd.prog 72 0 0 := by
  intro a w
  simp [Instr.fieldAt, Tryd.runUnderlying72, Instr.sureAddr, fieldPlace, Tryd.sizeOf3]
theorem fa_72_1 : FieldAt Tryd.prog 72 1 1 := by
  intro a w
  simp [Instr.fieldAt, Tryd.runUnderlying72, Instr.sureAddr, fieldPlace, Tryd.sizeOf3]
theorem fa_72_2 : FieldAt Tryd.prog 72 2 2 := by
  intro a w
  simp [Instr.fieldAt, Tryd.runUnderlying72, Instr.sureAddr, fieldPlace, Tryd.sizeOf3]
theorem fa_90_0 : FieldAt Tryd.prog 90 0 0 := by
  intro a w
  simp [Instr.fieldAt, Tryd.runUnderlying90, Instr.sureAddr, fieldPlace, Tryd.sizeOf3]
theorem fa_90_1 : FieldAt Tryd.prog 90 1 1 := by
  intro a w
  simp [Instr.fieldAt, Tryd.runUnderlying90, Instr.sureAddr, fieldPlace, Tryd.sizeOf88]
theorem pl_32 : ∀ w, (#[{ name := "Places", type := 3, offset := 0, embedded := false, tag := "", pkgPath := "", byteOffset := 0 }, { name := "Airways", type := 30, offset := 1, embedded := false, tag := "", pkgPath := "", byteOffset := 8 }].mapM (fun (f : Field) => (do pure (f.offset, ← sizeOf f.type) : Sem (Nat × Nat)))).run Tryd.prog w = .ok #[(0, 1), (1, 1)] w := by
  intro w
  simp [Tryd.sizeOf3, Tryd.sizeOf30]
theorem pl_39 : ∀ w, (#[{ name := "Num", type := 3, offset := 0, embedded := false, tag := "", pkgPath := "", byteOffset := 0 }, { name := "Den", type := 3, offset := 1, embedded := false, tag := "", pkgPath := "", byteOffset := 8 }].mapM (fun (f : Field) => (do pure (f.offset, ← sizeOf f.type) : Sem (Nat × Nat)))).run Tryd.prog w = .ok #[(0, 1), (1, 1)] w := by
  intro w
  simp [Tryd.sizeOf3]
theorem pl_52 : ∀ w, (#[{ name := "From", type := 3, offset := 0, embedded := false, tag := "", pkgPath := "", byteOffset := 0 }, { name := "To", type := 3, offset := 1, embedded := false, tag := "", pkgPath := "", byteOffset := 8 }, { name := "East", type := 3, offset := 2, embedded := false, tag := "", pkgPath := "", byteOffset := 16 }, { name := "North", type := 3, offset := 3, embedded := false, tag := "", pkgPath := "", byteOffset := 24 }, { name := "Up", type := 3, offset := 4, embedded := false, tag := "", pkgPath := "", byteOffset := 32 }].mapM (fun (f : Field) => (do pure (f.offset, ← sizeOf f.type) : Sem (Nat × Nat)))).run Tryd.prog w = .ok #[(0, 1), (1, 1), (2, 1), (3, 1), (4, 1)] w := by
  intro w
  simp [Tryd.sizeOf3]
theorem pl_57 : ∀ w, (#[{ name := "From", type := 3, offset := 0, embedded := false, tag := "", pkgPath := "", byteOffset := 0 }, { name := "To", type := 3, offset := 1, embedded := false, tag := "", pkgPath := "", byteOffset := 8 }, { name := "Width", type := 3, offset := 2, embedded := false, tag := "", pkgPath := "", byteOffset := 16 }].mapM (fun (f : Field) => (do pure (f.offset, ← sizeOf f.type) : Sem (Nat × Nat)))).run Tryd.prog w = .ok #[(0, 1), (1, 1), (2, 1)] w := by
  intro w
  simp [Tryd.sizeOf3]
theorem pl_66 : ∀ w, (#[{ name := "b", type := 22, offset := 0, embedded := false, tag := "", pkgPath := "loop.example/cavesurvey/spec", byteOffset := 0 }, { name := "p", type := 3, offset := 1, embedded := false, tag := "", pkgPath := "loop.example/cavesurvey/spec", byteOffset := 24 }].mapM (fun (f : Field) => (do pure (f.offset, ← sizeOf f.type) : Sem (Nat × Nat)))).run Tryd.prog w = .ok #[(0, 1), (1, 1)] w := by
  intro w
  simp [Tryd.sizeOf22, Tryd.sizeOf3]
theorem pl_72 : ∀ w, (#[{ name := "East", type := 3, offset := 0, embedded := false, tag := "", pkgPath := "", byteOffset := 0 }, { name := "North", type := 3, offset := 1, embedded := false, tag := "", pkgPath := "", byteOffset := 8 }, { name := "Up", type := 3, offset := 2, embedded := false, tag := "", pkgPath := "", byteOffset := 16 }].mapM (fun (f : Field) => (do pure (f.offset, ← sizeOf f.type) : Sem (Nat × Nat)))).run Tryd.prog w = .ok #[(0, 1), (1, 1), (2, 1)] w := by
  intro w
  simp [Tryd.sizeOf3]
theorem pl_90 : ∀ w, (#[{ name := "Stations", type := 3, offset := 0, embedded := false, tag := "", pkgPath := "", byteOffset := 0 }, { name := "Legs", type := 88, offset := 1, embedded := false, tag := "", pkgPath := "", byteOffset := 8 }].mapM (fun (f : Field) => (do pure (f.offset, ← sizeOf f.type) : Sem (Nat × Nat)))).run Tryd.prog w = .ok #[(0, 1), (1, 1)] w := by
  intro w
  simp [Tryd.sizeOf3, Tryd.sizeOf88]

end Go.Proofs.YtkedammjdldloaaDoor
