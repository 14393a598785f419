/- Facts of the program's types; no condition. -/
import Derived.Test.YtnibfmofkamjoaaDoorZDa
import Derived.Test.YtnibfmofkamjoaaDoorProg
namespace Go.Proofs.YtnibfmofkamjoaaDoor
open Go
set_option linter.unusedSimpArgs false

theorem drawMixed : Tryd.prog.follows .mixedOrders = true := by kernel_rfl
theorem fa_25_0 : FieldAt Tryd.prog 25 0 0 := by
  intro a w
  simp [Instr.fieldAt, Tryd.runUnderlying25, Instr.sureAddr, fieldPlace, Tryd.sizeOf3]
theorem fa_25_1 : FieldAt Tryd.prog 25 1 1 := by
  intro a w
  simp [Instr.fieldAt, Tryd.runUnderlying25, Instr.sureAddr, fieldPlace, Tryd.sizeOf23]
theorem fa_37_0 : FieldAt Tryd.prog 37 0 0 := by
  intro a w
  simp [Instr.fieldAt, Tryd.runUnderlying37, Instr.sureAddr, fieldPlace, Tryd.sizeOf3]
theorem fa_37_1 : FieldAt Tryd.prog 37 1 1 := by
  intro a w
  simp [Instr.fieldAt, Tryd.runUnderlying37, Instr.sureAddr, fieldPlace, Tryd.sizeOf3]
theorem fa_37_2 : FieldAt Tryd.prog 37 2 2 := by
  intro a w
  simp [Instr.fieldAt, Tryd.runUnderlying37, Instr.sureAddr, fieldPlace, Tryd.sizeOf3]
theorem fa_48_0 : FieldAt Tryd.prog 48 0 0 := by
  intro a w
  simp [Instr.fieldAt, Tryd.runUnderlying48, Instr.sureAddr, fieldPlace, Tryd.sizeOf3]
theorem fa_48_1 : FieldAt Tryd.prog 48 1 1 := by
  intro a w
  simp [Instr.fieldAt, Tryd.runUnderlying48, Instr.sureAddr, fieldPlace, Tryd.sizeOf3]
theorem fa_48_2 : FieldAt Tryd.prog 48 2 2 := by
  intro a w
  simp [Instr.fieldAt, Tryd.runUnderlying48, Instr.sureAddr, fieldPlace, Tryd.sizeOf3]
theorem fa_48_3 : FieldAt Tryd.prog 48 3 3 := by
  intro a w
  simp [Instr.fieldAt, Tryd.runUnderlying48, Instr.sureAddr, fieldPlace, Tryd.sizeOf3]
theorem fa_48_4 : FieldAt Tryd.prog 48 4 4 := by
  intro a w
  simp [Instr.fieldAt, Tryd.runUnderlying48, Instr.sureAddr, fieldPlace, Tryd.sizeOf3]
theorem fa_68_0 : FieldAt Tryd.prog 68 0 0 := by
  intro a w
  simp [Instr.fieldAt, Tryd.runUnderlying68, Instr.sureAddr, fieldPlace, Tryd.sizeOf3]
theorem fa_68_1 : FieldAt Tryd.prog 68 1 1 := by
  intro a w
  simp [Instr.fieldAt, Tryd.runUnderlying68, Instr.sureAddr, fieldPlace, Tryd.sizeOf4]
theorem fa_109_0 : FieldAt Tryd.prog 109 0 0 := by
  intro a w
  simp [Instr.fieldAt, Tryd.runUnderlying109, Instr.sureAddr, fieldPlace, Tryd.sizeOf22]
theorem fa_109_1 : FieldAt Tryd.prog 109 1 1 := by
  intro a w
  simp [Instr.fieldAt, Tryd.runUnderlying109, Instr.sureAddr, fieldPlace, Tryd.sizeOf3]
theorem pl_25 : ∀ w, (#[{ name := "Stations", type := 3, offset := 0, embedded := false, tag := "", pkgPath := "", byteOffset := 0 }, { name := "Legs", type := 23, offset := 1, embedded := false, tag := "", pkgPath := "", byteOffset := 8 }].mapM (fun (f : Field) => (do pure (f.offset, ← sizeOf f.type) : Sem (Nat × Nat)))).run Tryd.prog w = .ok #[(0, 1), (1, 1)] w := by
  intro w
  simp [Tryd.sizeOf23, Tryd.sizeOf3]
theorem pl_37 : ∀ w, (#[{ name := "East", type := 3, offset := 0, embedded := false, tag := "", pkgPath := "", byteOffset := 0 }, { name := "North", type := 3, offset := 1, embedded := false, tag := "", pkgPath := "", byteOffset := 8 }, { name := "Up", type := 3, offset := 2, embedded := false, tag := "", pkgPath := "", byteOffset := 16 }].mapM (fun (f : Field) => (do pure (f.offset, ← sizeOf f.type) : Sem (Nat × Nat)))).run Tryd.prog w = .ok #[(0, 1), (1, 1), (2, 1)] w := by
  intro w
  simp [Tryd.sizeOf3]
theorem pl_48 : ∀ w, (#[{ name := "From", type := 3, offset := 0, embedded := false, tag := "", pkgPath := "", byteOffset := 0 }, { name := "To", type := 3, offset := 1, embedded := false, tag := "", pkgPath := "", byteOffset := 8 }, { name := "East", type := 3, offset := 2, embedded := false, tag := "", pkgPath := "", byteOffset := 16 }, { name := "North", type := 3, offset := 3, embedded := false, tag := "", pkgPath := "", byteOffset := 24 }, { name := "Up", type := 3, offset := 4, embedded := false, tag := "", pkgPath := "", byteOffset := 32 }].mapM (fun (f : Field) => (do pure (f.offset, ← sizeOf f.type) : Sem (Nat × Nat)))).run Tryd.prog w = .ok #[(0, 1), (1, 1), (2, 1), (3, 1), (4, 1)] w := by
  intro w
  simp [Tryd.sizeOf3]
theorem pl_68 : ∀ w, (#[{ name := "Index", type := 3, offset := 0, embedded := false, tag := "", pkgPath := "", byteOffset := 0 }, { name := "Back", type := 4, offset := 1, embedded := false, tag := "", pkgPath := "", byteOffset := 8 }].mapM (fun (f : Field) => (do pure (f.offset, ← sizeOf f.type) : Sem (Nat × Nat)))).run Tryd.prog w = .ok #[(0, 1), (1, 1)] w := by
  intro w
  simp [Tryd.sizeOf3, Tryd.sizeOf4]
theorem pl_109 : ∀ w, (#[{ name := "b", type := 22, offset := 0, embedded := false, tag := "", pkgPath := "loop.example/cavesurvey/spec", byteOffset := 0 }, { name := "p", type := 3, offset := 1, embedded := false, tag := "", pkgPath := "loop.example/cavesurvey/spec", byteOffset := 24 }].mapM (fun (f : Field) => (do pure (f.offset, ← sizeOf f.type) : Sem (Nat × Nat)))).run Tryd.prog w = .ok #[(0, 1), (1, 1)] w := by
  intro w
  simp [Tryd.sizeOf22, Tryd.sizeOf3]

end Go.Proofs.YtnibfmofkamjoaaDoor
