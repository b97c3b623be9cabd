-- Written for this claim by a program of mine (a turned copy of the kit's print): functions as plain Lean, and their contracts. Lean checks it.
import Derived.Test.YtjpngldnkgofaaaPFnDisksToldx0
import Derived.Test.YtjpngldnkgofaaaPFnDisksToldx2
import Derived.Test.YtjpngldnkgofaaaPFnDisksToldx3
import Derived.Test.YtjpngldnkgofaaaPFnDisksToldx5
import Derived.Test.YtjpngldnkgofaaaPFnDisksToldx6
import Derived.Test.YtjpngldnkgofaaaPFnDisksToldx12
import Derived.Test.YtjpngldnkgofaaaPFnDisksToldx13
import Derived.Test.YtjpngldnkgofaaaVFnDisksTold1
namespace Go.Proofs.Ytjpngldnkgofaaa.PFnDisksTold
open Go.RowKit Go.Proofs.YtjpngldnkgofaaaW.PrintWords Go.Proofs.YtjpngldnkgofaaaW.PrintLast Go.Proofs.YtjpngldnkgofaaaW.PrintMore
attribute [local go_sem] max2_int min2_int max_two min_two max_three min_three max_four min_four   -- for this text's walks alone
set_option linter.unusedVariables false
set_option linter.unusedSimpArgs false

/-! ### laws_FnDisksTold: function 7 -/
def laws_FnDisksTold.f (k : Nat) (l0 : List Int) : Option (Bool) := (laws_big.f l0).bind fun t441 => (if t441 = true then (some true) else ((spec_DrawDiskOk.f k l0).bind fun bt442 => ((spec_DrawReadSector.f k l0).bind fun bt449 => ((impl_ReadSector.f k bt449.1 bt449.2.1 bt449.2.2).bind fun bt457 => ((spec_ReadSector.f k bt449.1 bt449.2.1 bt449.2.2).bind fun bt459 => ((spec_DrawSectorText.f k l0).bind fun bt461 => ((impl_SectorText.f k bt461.1 bt461.2.1 bt461.2.2.1 bt461.2.2.2).bind fun bt470 => ((spec_SectorText.f k bt461.1 bt461.2.1 bt461.2.2.1 bt461.2.2.2).bind fun bt472 => ((impl_DiskNew.f k 3).bind fun bt474 => ((impl_DiskNew.f k 0).bind fun bt482 => ((impl_DiskOk.f bt442.1 bt442.2).bind fun t490 => ((spec_DiskOk.f k bt442.1 bt442.2).bind fun t491 => (if (t490 == t491) = true then (if (bt457.2 == bt459.2) = true then (if bt457.1.toList = bt459.1.toList then (if (bt470.2 == bt472.2) = true then (if bt470.1.toList = bt472.1.toList then ((impl_FlushDisk.f k bt442.1 bt442.2).bind fun bt492 => ((spec_FlushDisk.f k bt442.1 bt442.2).bind fun bt498 => ((laws_sameDisk.f k bt492.1 bt492.2 bt498.1 bt498.2).bind fun t504 => (if t504 = true then (if bt474.2.2 = true then (if bt482.2.2 = true then (some false) else (some ((bt474.1.length : Int) == 3))) else (some false)) else (some false))))) else (some false)) else (some false)) else (some false)) else (some false)) else (some false))))))))))))))
theorem laws_FnDisksTold.mono : ∀ a0 k, LeO (laws_FnDisksTold.f k a0) (laws_FnDisksTold.f (k + 1) a0) := by
 intro a0 k
 unfold laws_FnDisksTold.f
 repeat' first
   | (with_reducible exact impl_DiskNew.mono _ _)
   | (with_reducible exact impl_FlushDisk.mono _ _ _)
   | (with_reducible exact impl_ReadSector.mono _ _ _ _)
   | (with_reducible exact impl_SectorText.mono _ _ _ _ _)
   | (with_reducible exact laws_sameDisk.mono _ _ _ _ _)
   | (with_reducible exact spec_DiskOk.mono _ _ _)
   | (with_reducible exact spec_DrawDiskOk.mono _ _)
   | (with_reducible exact spec_DrawReadSector.mono _ _)
   | (with_reducible exact spec_DrawSectorText.mono _ _)
   | (with_reducible exact spec_FlushDisk.mono _ _ _)
   | (with_reducible exact spec_ReadSector.mono _ _ _ _)
   | (with_reducible exact spec_SectorText.mono _ _ _ _ _)
   | (with_reducible exact LeO.refl _)
   | (with_reducible exact LeO.none _)
   | (with_reducible refine LeO.ite ?_ ?_)
   | (with_reducible refine LeO.bind ?_ (fun _ => ?_))
   | exact impl_DiskNew.mono _ _
   | exact impl_FlushDisk.mono _ _ _
   | exact impl_ReadSector.mono _ _ _ _
   | exact impl_SectorText.mono _ _ _ _ _
   | exact laws_sameDisk.mono _ _ _ _ _
   | exact spec_DiskOk.mono _ _ _
   | exact spec_DrawDiskOk.mono _ _
   | exact spec_DrawReadSector.mono _ _
   | exact spec_DrawSectorText.mono _ _
   | exact spec_FlushDisk.mono _ _ _
   | exact spec_ReadSector.mono _ _ _ _
   | exact spec_SectorText.mono _ _ _ _ _
   | exact LeO.none _
   | refine LeO.ite ?_ ?_
   | refine LeO.bind ?_ (fun _ => ?_)
def laws_FnDisksTold.T12 : Bool × List (List Nat × List Nat) := (true, [([], []), ([0], [0]), ([], []), ([2, 1], [2]), ([1, 3], [1, 3]), ([4, 3], [4]), ([5], [5]), ([5], [5]), ([6, 7, 5], [5, 6, 7]), ([5, 8], [5, 8]), ([9, 5], [9]), ([10], [10]), ([10], [10]), ([11, 12, 10], [10, 11, 12]), ([10, 13], [10, 13]), ([14, 10], [14]), ([15], [15]), ([15], [15]), ([16, 17, 15], [15, 16, 17]), ([15, 18], [15, 18]), ([19, 15], [19]), ([20], [20]), ([20], [20]), ([21, 22, 20], [20, 21, 22]), ([20, 23], [20, 23]), ([24, 20], [24]), ([25], [25]), ([26, 25, 25], [25, 26]), ([25], [25]), ([28, 27, 25], [25, 28]), ([27, 29, 29, 25], [25, 27, 29]), ([25, 30], [25, 30]), ([31, 30], [31]), ([32], [32]), ([32, 33], [32, 33]), ([34, 32], [34]), ([35], [35]), ([36, 35], [35, 36]), ([35, 37], [35, 37]), ([38, 35], [38]), ([39], [39]), ([40, 39], [39, 40]), ([41, 39], [39, 41]), ([42, 39], [39, 42]), ([39, 43], [39, 43]), ([44, 39, 0, 1, 2, 3, 4, 5, 6, 7, 8, 9, 10, 11, 12, 13, 14, 15, 16, 17, 18, 19, 20, 21, 22, 23, 24, 25, 26, 27, 28, 29, 30, 31, 32, 33, 34, 35, 36, 37, 38, 39, 40, 41, 42, 43, 44], [44])])
def laws_FnDisksTold.B12 : List Nat := [0, 1, 0, 7, 15, 31, 63, 63, 255, 511, 1023, 2047, 2047, 8191, 16383, 32767, 65535, 65535, 262143, 524287, 1048575, 2097151, 2097151, 8388607, 16777215, 33554431, 67108863, 134217727, 67108863, 536870911, 1073741823, 2147483647, 4294967295, 8589934591, 17179869183, 34359738367, 68719476735, 137438953471, 274877906943, 549755813887, 1099511627775, 2199023255551, 4398046511103, 8796093022207, 17592186044415, 35184372088831]
theorem laws_FnDisksTold.tab12 : rtab .any (opsOf Try.f7 12) = laws_FnDisksTold.T12 := by kernel_rfl
theorem laws_FnDisksTold.bits12 : waitsOk laws_FnDisksTold.T12.2 laws_FnDisksTold.B12 = true := by kernel_rfl
end Go.Proofs.Ytjpngldnkgofaaa.PFnDisksTold
