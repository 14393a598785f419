/- Facts of the program's types; no condition. -/
import Derived.Test.YtpfijnklnljccaaDoorZDa
import Derived.Test.YtpfijnklnljccaaDoorProg
namespace Go.Proofs.YtpfijnklnljccaaDoor
open Go
set_option linter.unusedSimpArgs false

theorem drawMixed : Tryd.prog.follows .mixedOrders = true := by kernel_rfl
theorem fa_32_0 : FieldAt Tryd.prog 32 0 0 := by
  intro a w
  simp [Instr.fieldAt, Tryd.runUnderlying32, Instr.sureAddr, fieldPlace, Tryd.sizeOf3]
theorem fa_32_1 : FieldAt Tryd.prog 32 1 1 := by
  intro a w
  simp [Instr.fieldAt, Tryd.runUnderlying32, Instr.sureAddr, fieldPlace, Tryd.sizeOf30]
theorem fa_36_0 : FieldAt Tryd.prog 36 0 0 := by
  intro a w
  simp [Instr.fieldAt, Tryd.runUnderlying36, Instr.sureAddr, fieldPlace, Tryd.sizeOf3]
theorem fa_36_1 : FieldAt Tryd.prog 36 1 1 := by
  intro a w
  simp [Instr.fieldAt, Tryd.runUnderlying36, Instr.sureAddr, fieldPlace, Tryd.sizeOf3]
theorem fa_36_2 : FieldAt Tryd.prog 36 2 2 := by
  intro a w
  simp [Instr.fieldAt, Tryd.runUnderlying36, Instr.sureAddr, fieldPlace, Tryd.sizeOf3]
theorem fa_53_0 : FieldAt Tryd.prog 53 0 0 := by
  intro a w
  simp [Instr.fieldAt, Tryd.runUnderlying53, Instr.sureAddr, fieldPlace, Tryd.sizeOf3]
theorem fa_53_1 : FieldAt Tryd.prog 53 1 1 := by
  intro a w
  simp [Instr.fieldAt, Tryd.runUnderlying53, Instr.sureAddr, fieldPlace, Tryd.sizeOf51]
theorem fa_55_0 : FieldAt Tryd.prog 55 0 0 := by
  intro a w
  simp [Instr.fieldAt, Tryd.runUnderlying55, Instr.sureAddr, fieldPlace, Tryd.sizeOf3]
theorem fa_55_1 : FieldAt Tryd.prog 55 1 1 := by
  intro a w
  simp [Instr.fieldAt, Tryd.runUnderlying55, Instr.sureAddr, fieldPlace, Tryd.sizeOf3]
theorem fa_55_2 : FieldAt Tryd.prog 55 2 2 := by
  intro a w
  simp [Instr.fieldAt, Tryd.runUnderlying55, Instr.sureAddr, fieldPlace, Tryd.sizeOf3]
theorem fa_55_3 : FieldAt Tryd.prog 55 3 3 := by
  intro a w
  simp [Instr.fieldAt, Tryd.runUnderlying55, Instr.sureAddr, fieldPlace, Tryd.sizeOf3]
theorem fa_55_4 : FieldAt Tryd.prog 55 4 4 := by
  intro a w
  simp [Instr.fieldAt, Tryd.runUnderlying55, Instr.sureAddr, fieldPlace, Tryd.sizeOf3]
theorem fa_100_0 : FieldAt Tryd.prog 100 0 0 := by
  intro a w
  simp [Instr.fieldAt, Tryd.runUnderlying100, Instr.sureAddr, fieldPlace, Tryd.sizeOf22]
theorem fa_100_1 : FieldAt Tryd.prog 100 1 1 := by
  intro a w
  simp [Instr.fieldAt, Tryd.runUnderlying100, Instr.sureAddr, fieldPlace, Tryd.sizeOf3]
theorem fa_105_0 : FieldAt Tryd.prog 105 0 0 := by
  intro a w
  simp [Instr.fieldAt, Tryd.runUnderlying105, Instr.sureAddr, fieldPlace, Tryd.sizeOf3]
theorem fa_105_1 : FieldAt Tryd.prog 105 1 1 := by
  intro a w
  simp [Instr.fieldAt, Tryd.runUnderlying105, Instr.sureAddr, fieldPlace, Tryd.sizeOf3]
theorem fa_105_2 : FieldAt Tryd.prog 105 2 2 := by
  intro a w
  simp [Instr.fieldAt, Tryd.runUnderlying105, Instr.sureAddr, fieldPlace, Tryd.sizeOf3]
theorem fa_112_0 : FieldAt Tryd.prog 112 0 0 := by
  intro a w
  simp [Instr.fieldAt, Tryd.runUnderlying112, Instr.sureAddr, fieldPlace, Tryd.sizeOf3]
theorem fa_112_1 : FieldAt Tryd.prog 112 1 1 := by
  intro a w
  simp [Instr.fieldAt, Tryd.runUnderlying112, Instr.sureAddr, fieldPlace, Tryd.sizeOf4]
theorem pl_32 : ∀ w, (#[{ name := "Places", type := 3, offset := 0, embedded := false, tag := "", pkgPath := "", byteOffset := 0 }, { name := "Airways", type := 30, offset := 1, embedded := false, tag := "", pkgPath := "", byteOffset := 8 }].mapM (fun (f : Field) => (do pure (f.offset, ← sizeOf f.type) : Sem (Nat × Nat)))).run Tryd.prog w = .ok #[(0, 1), (1, 1)] w := by
  intro w
  simp [Tryd.sizeOf3, Tryd.sizeOf30]
theorem pl_36 : ∀ w, (#[{ name := "From", type := 3, offset := 0, embedded := false, tag := "", pkgPath := "", byteOffset := 0 }, { name := "To", type := 3, offset := 1, embedded := false, tag := "", pkgPath := "", byteOffset := 8 }, { name := "Width", type := 3, offset := 2, embedded := false, tag := "", pkgPath := "", byteOffset := 16 }].mapM (fun (f : Field) => (do pure (f.offset, ← sizeOf f.type) : Sem (Nat × Nat)))).run Tryd.prog w = .ok #[(0, 1), (1, 1), (2, 1)] w := by
  intro w
  simp [Tryd.sizeOf3]
theorem pl_53 : ∀ w, (#[{ name := "Stations", type := 3, offset := 0, embedded := false, tag := "", pkgPath := "", byteOffset := 0 }, { name := "Legs", type := 51, offset := 1, embedded := false, tag := "", pkgPath := "", byteOffset := 8 }].mapM (fun (f : Field) => (do pure (f.offset, ← sizeOf f.type) : Sem (Nat × Nat)))).run Tryd.prog w = .ok #[(0, 1), (1, 1)] w := by
  intro w
  simp [Tryd.sizeOf3, Tryd.sizeOf51]
theorem pl_55 : ∀ w, (#[{ name := "From", type := 3, offset := 0, embedded := false, tag := "", pkgPath := "", byteOffset := 0 }, { name := "To", type := 3, offset := 1, embedded := false, tag := "", pkgPath := "", byteOffset := 8 }, { name := "East", type := 3, offset := 2, embedded := false, tag := "", pkgPath := "", byteOffset := 16 }, { name := "North", type := 3, offset := 3, embedded := false, tag := "", pkgPath := "", byteOffset := 24 }, { name := "Up", type := 3, offset := 4, embedded := false, tag := "", pkgPath := "", byteOffset := 32 }].mapM (fun (f : Field) => (do pure (f.offset, ← sizeOf f.type) : Sem (Nat × Nat)))).run Tryd.prog w = .ok #[(0, 1), (1, 1), (2, 1), (3, 1), (4, 1)] w := by
  intro w
  simp [Tryd.sizeOf3]
theorem pl_100 : ∀ w, (#[{ name := "b", type := 22, offset := 0, embedded := false, tag := "", pkgPath := "loop.example/cavesurvey/spec", byteOffset := 0 }, { name := "p", type := 3, offset := 1, embedded := false, tag := "", pkgPath := "loop.example/cavesurvey/spec", byteOffset := 24 }].mapM (fun (f : Field) => (do pure (f.offset, ← sizeOf f.type) : Sem (Nat × Nat)))).run Tryd.prog w = .ok #[(0, 1), (1, 1)] w := by
  intro w
  simp [Tryd.sizeOf22, Tryd.sizeOf3]
theorem pl_105 : ∀ w, (#[{ name := "East", type := 3, offset := 0, embedded := false, tag := "", pkgPath := "", byteOffset := 0 }, { name := "North", type := 3, offset := 1, embedded := false, tag := "", pkgPath := "", byteOffset := 8 }, { name := "Up", type := 3, offset := 2, embedded := false, tag := "", pkgPath := "", byteOffset := 16 }].mapM (fun (f : Field) => (do pure (f.offset, ← sizeOf f.type) : Sem (Nat × Nat)))).run Tryd.prog w = .ok #[(0, 1), (1, 1), (2, 1)] w := by
  intro w
  simp [Tryd.sizeOf3]
theorem pl_112 : ∀ w, (#[{ name := "Index", type := 3, offset := 0, embedded := false, tag := "", pkgPath := "", byteOffset := 0 }, { name := "Back", type := 4, offset := 1, embedded := false, tag := "", pkgPath := "", byteOffset := 8 }].mapM (fun (f : Field) => (do pure (f.offset, ← sizeOf f.type) : Sem (Nat × Nat)))).run Tryd.prog w = .ok #[(0, 1), (1, 1)] w := by
  intro w
  simp [Tryd.sizeOf3, Tryd.sizeOf4]

end Go.Proofs.YtpfijnklnljccaaDoor
