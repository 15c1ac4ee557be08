/-
  DERIVED: THE SHELF's CONTRACTS AT THIS DUMP, IN PLAIN WORDS (tools/lay-plain.mjs out of 'TryzShelf.lean', which tools/lay-shelf.mjs wrote): THE SAME DECLARATIONS UNDER THE SAME NAMES: 'import', 'namespace', 'open', 'def', 'theorem' AND NOTHING ELSE: no command of the shelf's: FOR A HAND-IN. Each laying: the table of numbers ('.._ren') and one theorem, a field a fact of the dump's own or the kernel's comparison; each contract: ONE APPLICATION.
-/
import Derived.Shelf.Spec.SlicesInsert
import Derived.Shelf.Spec.SlicesInsertGrow
import Derived.Shelf.Slices.ReverseS
import Derived.Test.YtifjpcdpmimccaaGreatDoorProg
namespace Go.Proofs
open Go.Shelf
def Tryz.laysNm222_ren : Go.Shelf.Ren := ⟨fun | 22 => 37 | 29 => 70 | 30 => 71 | 36 => 99 | 17 => 123 | n => n, fun | 24 => 59 | 9 => 9 | 3 => 3 | 4 => 4 | 0 => 0 | n => n, fun | n => n⟩
theorem Tryz.laysNm222 : Go.Proofs.Lays2.n22 Tryz.prog Tryz.laysNm222_ren := {
 mixed := by kernel_rfl
 f17 := Tryz.func123.trans (congrArg some (by kernel_rfl))
 f22 := Tryz.func37.trans (congrArg some (by kernel_rfl))
 f29 := Tryz.func70.trans (congrArg some (by kernel_rfl))
 f30 := Tryz.func71.trans (congrArg some (by kernel_rfl))
 f36 := Tryz.func99.trans (congrArg some (by kernel_rfl))
 t0 := Tryz.underlying0
 a0 := Tryz.isAgg0
 z0 := Tryz.sizeOf0
 v0 := Tryz.zeroValue0
 t3 := Tryz.underlying3
 a3 := Tryz.isAgg3
 z3 := Tryz.sizeOf3
 v3 := Tryz.zeroValue3
 t4 := Tryz.underlying4
 a4 := Tryz.isAgg4
 z4 := Tryz.sizeOf4
 v4 := Tryz.zeroValue4
 t9 := Tryz.underlying9
 a9 := Tryz.isAgg9
 z9 := Tryz.sizeOf9
 v9 := Tryz.zeroValue9
 t24 := Tryz.underlying59
 a24 := Tryz.isAgg59
 z24 := Tryz.sizeOf59
 v24 := Tryz.zeroValue59
 i9 := by kernel_rfl }
end Go.Proofs
