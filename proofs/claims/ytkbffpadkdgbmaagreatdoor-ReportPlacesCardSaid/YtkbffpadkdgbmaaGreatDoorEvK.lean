/- awake, run by the evaluator in the kernel. -/
import Derived.Test.YtkbffpadkdgbmaaGreatDoorEvA
import Derived.Test.YtkbffpadkdgbmaaGreatDoorProg
import Derived.KernelRfl
namespace Go.Proofs.YtkbffpadkdgbmaaGreatDoor.X
open Go Go.Ev
noncomputable def tabs29 : List (Nat × Blk) := [(3, tabBlk [1, 10, 100, 1000, 10000, 100000, 1000000, 10000000, 100000000, 1000000000, 10000000000, 100000000000, 1000000000000, 10000000000000, 100000000000000, 1000000000000000, 10000000000000000, 100000000000000000, 1000000000000000000, 10000000000000000000] .u64), (4, tabBlk [0, 1, 56, 2, 57, 49, 28, 3, 61, 58, 42, 50, 38, 29, 17, 4, 62, 47, 59, 36, 45, 43, 51, 22, 53, 39, 33, 30, 24, 18, 12, 5, 63, 55, 48, 27, 60, 41, 37, 16, 46, 35, 44, 21, 52, 32, 23, 11, 54, 26, 40, 15, 34, 20, 31, 10, 25, 14, 19, 9, 13, 8, 7, 6] .u8)]
set_option maxRecDepth 100000
theorem runs29 : runs tabs29 Tryz.prog 10 100 100000 = true := by kernel_rfl
end Go.Proofs.YtkbffpadkdgbmaaGreatDoor.X
