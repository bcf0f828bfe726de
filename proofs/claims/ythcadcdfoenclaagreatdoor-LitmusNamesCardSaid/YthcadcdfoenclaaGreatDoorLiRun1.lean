/- The run of the law, from state 4 to state 8. No condition. -/
import Derived.Test.YthcadcdfoenclaaGreatDoorLiSt0
import Derived.Test.YthcadcdfoenclaaGreatDoorLiMd
import Derived.KernelRfl
set_option maxRecDepth 100000
namespace Go.Proofs.YthcadcdfoenclaaGreatDoor.Sim
open Go Go.RowKit
theorem ze5 : gcS (keys zh5) (keys zg5) 74220 (aruns tab [0,1,2,4,7,11] zs4) = zs5 := by kernel_rfl
theorem zn6 : altN (fstep tab zs5) = 2 := by kernel_rfl
theorem ze6w0 : gcS (keys zh6) (keys zg6) 74272 (aruns tab [5,6] (altOf (fstep tab zs5) 0 zs5)) = zs6 := by kernel_rfl
theorem ze6w1 : gcS (keys zh6) (keys zg6) 74272 (aruns tab [0,3,5,6] (altOf (fstep tab zs5) 1 zs5)) = zs6 := by kernel_rfl
theorem ze7 : gcS (keys zh7) (keys zg7) 85758 (aruns tab [0,2,4,6,7,11] zs6) = zs7 := by kernel_rfl
theorem zn8 : altN (fstep tab zs7) = 2 := by kernel_rfl
theorem ze8w0 : gcS (keys zh8) (keys zg8) 85810 (aruns tab [0,3,5,6] (altOf (fstep tab zs7) 0 zs7)) = zs8 := by kernel_rfl
theorem ze8w1 : gcS (keys zh8) (keys zg8) 85810 (aruns tab [5,6] (altOf (fstep tab zs7) 1 zs7)) = zs8 := by kernel_rfl
theorem run1 (f : FuncId) (v : Value) (k : Fin tab f v zs8) : Fin tab f v zs4 := .runs _ _ _ _ ze5 (.two _ _ _ _ _ zn6 ze6w0 ze6w1 (.runs _ _ _ _ ze7 (.two _ _ _ _ _ zn8 ze8w0 ze8w1 (k))))
end Go.Proofs.YthcadcdfoenclaaGreatDoor.Sim
