/- The run of the law, from state 8 to state 12. No condition. -/
import Derived.Test.YthcadcdfoenclaaGreatDoorLiSt0
import Derived.Test.YthcadcdfoenclaaGreatDoorLiMd
import Derived.KernelRfl
set_option maxRecDepth 100000
namespace Go.Proofs.YthcadcdfoenclaaGreatDoor.Sim
open Go Go.RowKit
theorem ze9 : gcS (keys zh9) (keys zg9) 97234 (aruns tab [0,1,2,4,7,11] zs8) = zs9 := by kernel_rfl
theorem zn10 : altN (fstep tab zs9) = 2 := by kernel_rfl
theorem ze10w0 : gcS (keys zh10) (keys zg10) 97286 (aruns tab [0,3,5,6] (altOf (fstep tab zs9) 0 zs9)) = zs10 := by kernel_rfl
theorem ze10w1 : gcS (keys zh10) (keys zg10) 97286 (aruns tab [5,6] (altOf (fstep tab zs9) 1 zs9)) = zs10 := by kernel_rfl
theorem ze11 : gcS (keys zh11) (keys zg11) 108717 (aruns tab [1,2,4,8,9,12] zs10) = zs11 := by kernel_rfl
theorem zn12 : altN (fstep tab zs11) = 2 := by kernel_rfl
theorem ze12w0 : gcS (keys zh12) (keys zg12) 108769 (aruns tab [0,3,5,6] (altOf (fstep tab zs11) 0 zs11)) = zs12 := by kernel_rfl
theorem ze12w1 : gcS (keys zh12) (keys zg12) 108769 (aruns tab [5,6] (altOf (fstep tab zs11) 1 zs11)) = zs12 := by kernel_rfl
theorem run2 (f : FuncId) (v : Value) (k : Fin tab f v zs12) : Fin tab f v zs8 := .runs _ _ _ _ ze9 (.two _ _ _ _ _ zn10 ze10w0 ze10w1 (.runs _ _ _ _ ze11 (.two _ _ _ _ _ zn12 ze12w0 ze12w1 (k))))
end Go.Proofs.YthcadcdfoenclaaGreatDoor.Sim
