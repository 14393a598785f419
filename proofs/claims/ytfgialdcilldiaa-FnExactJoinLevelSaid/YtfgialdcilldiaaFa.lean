/- Facts of the program's types; no condition. -/
import Derived.Test.YtfgialdcilldiaaDa
import Derived.Test.YtfgialdcilldiaaProg
namespace Go.Proofs.Ytfgialdcilldiaa
open Go
set_option linter.unusedSimpArgs false

theorem drawMixed : Try.prog.follows .mixedOrders = true := by kernel_rfl
theorem fa_23_0 : FieldAt Try.prog 23 0 0 := by
  intro a w
  simp [Instr.fieldAt, Try.runUnderlying23, Instr.sureAddr, fieldPlace, Try.sizeOf3]
theorem fa_23_1 : FieldAt Try.prog 23 1 1 := by
  intro a w
  simp [Instr.fieldAt, Try.runUnderlying23, Instr.sureAddr, fieldPlace, Try.sizeOf3]
theorem fa_25_0 : FieldAt Try.prog 25 0 0 := by
  intro a w
  simp [Instr.fieldAt, Try.runUnderlying25, Instr.sureAddr, fieldPlace, Try.sizeOf3]
theorem fa_25_1 : FieldAt Try.prog 25 1 1 := by
  intro a w
  simp [Instr.fieldAt, Try.runUnderlying25, Instr.sureAddr, fieldPlace, Try.sizeOf3]
theorem fa_30_0 : FieldAt Try.prog 30 0 0 := by
  intro a w
  simp [Instr.fieldAt, Try.runUnderlying30, Instr.sureAddr, fieldPlace, Try.sizeOf3]
theorem fa_30_1 : FieldAt Try.prog 30 1 1 := by
  intro a w
  simp [Instr.fieldAt, Try.runUnderlying30, Instr.sureAddr, fieldPlace, Try.sizeOf28]
theorem fa_35_0 : FieldAt Try.prog 35 0 0 := by
  intro a w
  simp [Instr.fieldAt, Try.runUnderlying35, Instr.sureAddr, fieldPlace, Try.sizeOf3]
theorem fa_35_1 : FieldAt Try.prog 35 1 1 := by
  intro a w
  simp [Instr.fieldAt, Try.runUnderlying35, Instr.sureAddr, fieldPlace, Try.sizeOf33]
theorem fa_42_0 : FieldAt Try.prog 42 0 0 := by
  intro a w
  simp [Instr.fieldAt, Try.runUnderlying42, Instr.sureAddr, fieldPlace, Try.sizeOf39]
theorem fa_42_1 : FieldAt Try.prog 42 1 1 := by
  intro a w
  simp [Instr.fieldAt, Try.runUnderlying42, Instr.sureAddr, fieldPlace, Try.sizeOf39]
theorem fa_42_2 : FieldAt Try.prog 42 2 2 := by
  intro a w
  simp [Instr.fieldAt, Try.runUnderlying42, Instr.sureAddr, fieldPlace, Try.sizeOf40]
theorem fa_47_0 : FieldAt Try.prog 47 0 0 := by
  intro a w
  simp [Instr.fieldAt, Try.runUnderlying47, Instr.sureAddr, fieldPlace, Try.sizeOf39]
theorem fa_47_1 : FieldAt Try.prog 47 1 1 := by
  intro a w
  simp [Instr.fieldAt, Try.runUnderlying47, Instr.sureAddr, fieldPlace, Try.sizeOf39]
theorem fa_47_2 : FieldAt Try.prog 47 2 2 := by
  intro a w
  simp [Instr.fieldAt, Try.runUnderlying47, Instr.sureAddr, fieldPlace, Try.sizeOf45]
theorem fa_77_0 : FieldAt Try.prog 77 0 0 := by
  intro a w
  simp [Instr.fieldAt, Try.runUnderlying77, Instr.sureAddr, fieldPlace, Try.sizeOf3]
theorem fa_77_1 : FieldAt Try.prog 77 1 1 := by
  intro a w
  simp [Instr.fieldAt, Try.runUnderlying77, Instr.sureAddr, fieldPlace, Try.sizeOf3]
theorem fa_77_2 : FieldAt Try.prog 77 2 2 := by
  intro a w
  simp [Instr.fieldAt, Try.runUnderlying77, Instr.sureAddr, fieldPlace, Try.sizeOf3]
theorem fa_83_0 : FieldAt Try.prog 83 0 0 := by
  intro a w
  simp [Instr.fieldAt, Try.runUnderlying83, Instr.sureAddr, fieldPlace, Try.sizeOf3]
theorem fa_83_1 : FieldAt Try.prog 83 1 1 := by
  intro a w
  simp [Instr.fieldAt, Try.runUnderlying83, Instr.sureAddr, fieldPlace, Try.sizeOf3]
theorem fa_83_2 : FieldAt Try.prog 83 2 2 := by
  intro a w
  simp [Instr.fieldAt, Try.runUnderlying83, Instr.sureAddr, fieldPlace, Try.sizeOf3]
theorem fa_93_0 : FieldAt Try.prog 93 0 0 := by
  intro a w
  simp [Instr.fieldAt, Try.runUnderlying93, Instr.sureAddr, fieldPlace, Try.sizeOf3]
theorem fa_93_1 : FieldAt Try.prog 93 1 1 := by
  intro a w
  simp [Instr.fieldAt, Try.runUnderlying93, Instr.sureAddr, fieldPlace, Try.sizeOf91]
theorem fa_103_0 : FieldAt Try.prog 103 0 0 := by
  intro a w
  simp [Instr.fieldAt, Try.runUnderlying103, Instr.sureAddr, fieldPlace, Try.sizeOf3]
theorem fa_103_1 : FieldAt Try.prog 103 1 1 := by
  intro a w
  simp [Instr.fieldAt, Try.runUnderlying103, Instr.sureAddr, fieldPlace, Try.sizeOf3]
theorem fa_103_2 : FieldAt Try.prog 103 2 2 := by
  intro a w
  simp [Instr.fieldAt, Try.runUnderlying103, Instr.sureAddr, fieldPlace, Try.sizeOf3]
theorem fa_106_0 : FieldAt Try.prog 106 0 0 := by
  intro a w
  simp [Instr.fieldAt, Try.runUnderlying106, Instr.sureAddr, fieldPlace, Try.sizeOf3]
theorem fa_106_1 : FieldAt Try.prog 106 1 1 := by
  intro a w
  simp [Instr.fieldAt, Try.runUnderlying106, Instr.sureAddr, fieldPlace, Try.sizeOf3]
theorem fa_106_2 : FieldAt Try.prog 106 2 2 := by
  intro a w
  simp [Instr.fieldAt, Try.runUnderlying106, Instr.sureAddr, fieldPlace, Try.sizeOf3]
theorem fa_111_0 : FieldAt Try.prog 111 0 0 := by
  intro a w
  simp [Instr.fieldAt, Try.runUnderlying111, Instr.sureAddr, fieldPlace, Try.sizeOf3]
theorem fa_111_1 : FieldAt Try.prog 111 1 1 := by
  intro a w
  simp [Instr.fieldAt, Try.runUnderlying111, Instr.sureAddr, fieldPlace, Try.sizeOf3]
theorem fa_111_2 : FieldAt Try.prog 111 2 2 := by
  intro a w
  simp [Instr.fieldAt, Try.runUnderlying111, Instr.sureAddr, fieldPlace, Try.sizeOf3]
theorem fa_111_3 : FieldAt Try.prog 111 3 3 := by
  intro a w
  simp [Instr.fieldAt, Try.runUnderlying111, Instr.sureAddr, fieldPlace, Try.sizeOf3]
theorem fa_111_4 : FieldAt Try.prog 111 4 4 := by
  intro a w
  simp [Instr.fieldAt, Try.runUnderlying111, Instr.sureAddr, fieldPlace, Try.sizeOf3]
theorem pl_35 : ∀ w, (#[{ name := "Places", type := 3, offset := 0, embedded := false, tag := "", pkgPath := "", byteOffset := 0 }, { name := "Airways", type := 33, offset := 1, embedded := false, tag := "", pkgPath := "", byteOffset := 8 }].mapM (fun (f : Field) => (do pure (f.offset, ← sizeOf f.type) : Sem (Nat × Nat)))).run Try.prog w = .ok #[(0, 1), (1, 1)] w := by
  intro w
  simp [Try.sizeOf3, Try.sizeOf33]
theorem pl_93 : ∀ w, (#[{ name := "Stations", type := 3, offset := 0, embedded := false, tag := "", pkgPath := "", byteOffset := 0 }, { name := "Legs", type := 91, offset := 1, embedded := false, tag := "", pkgPath := "", byteOffset := 8 }].mapM (fun (f : Field) => (do pure (f.offset, ← sizeOf f.type) : Sem (Nat × Nat)))).run Try.prog w = .ok #[(0, 1), (1, 1)] w := by
  intro w
  simp [Try.sizeOf3, Try.sizeOf91]
theorem pl_111 : ∀ w, (#[{ name := "From", type := 3, offset := 0, embedded := false, tag := "", pkgPath := "", byteOffset := 0 }, { name := "To", type := 3, offset := 1, embedded := false, tag := "", pkgPath := "", byteOffset := 8 }, { name := "East", type := 3, offset := 2, embedded := false, tag := "", pkgPath := "", byteOffset := 16 }, { name := "North", type := 3, offset := 3, embedded := false, tag := "", pkgPath := "", byteOffset := 24 }, { name := "Up", type := 3, offset := 4, embedded := false, tag := "", pkgPath := "", byteOffset := 32 }].mapM (fun (f : Field) => (do pure (f.offset, ← sizeOf f.type) : Sem (Nat × Nat)))).run Try.prog w = .ok #[(0, 1), (1, 1), (2, 1), (3, 1), (4, 1)] w := by
  intro w
  simp [Try.sizeOf3]

end Go.Proofs.Ytfgialdcilldiaa
