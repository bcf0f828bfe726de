/- The run of the law, from state 0 to state 4. No condition. -/
import Derived.Test.YthcadcdfoenclaaGreatDoorLiSt0
import Derived.Test.YthcadcdfoenclaaGreatDoorLiMd
import Derived.KernelRfl
set_option maxRecDepth 100000
namespace Go.Proofs.YthcadcdfoenclaaGreatDoor.Sim
open Go Go.RowKit
theorem ze1 : gcS (keys zh1) (keys zg1) 51237 (aruns tab [1,2,3,5,8,13] zs0) = zs1 := by kernel_rfl
theorem zn2 : altN (fstep tab zs1) = 2 := by kernel_rfl
theorem ze2w0 : gcS (keys zh2) (keys zg2) 51289 (aruns tab [5,6] (altOf (fstep tab zs1) 0 zs1)) = zs2 := by kernel_rfl
theorem ze2w1 : gcS (keys zh2) (keys zg2) 51289 (aruns tab [0,3,5,6] (altOf (fstep tab zs1) 1 zs1)) = zs2 := by kernel_rfl
theorem ze3 : gcS (keys zh3) (keys zg3) 62744 (aruns tab [1,2,4,5,7,11] zs2) = zs3 := by kernel_rfl
theorem zn4 : altN (fstep tab zs3) = 2 := by kernel_rfl
theorem ze4w0 : gcS (keys zh4) (keys zg4) 62796 (aruns tab [5,6] (altOf (fstep tab zs3) 0 zs3)) = zs4 := by kernel_rfl
theorem ze4w1 : gcS (keys zh4) (keys zg4) 62796 (aruns tab [0,3,5,6] (altOf (fstep tab zs3) 1 zs3)) = zs4 := by kernel_rfl
theorem run0 (f : FuncId) (v : Value) (k : Fin tab f v zs4) : Fin tab f v zs0 := .runs _ _ _ _ ze1 (.two _ _ _ _ _ zn2 ze2w0 ze2w1 (.runs _ _ _ _ ze3 (.two _ _ _ _ _ zn4 ze4w0 ze4w1 (k))))
end Go.Proofs.YthcadcdfoenclaaGreatDoor.Sim
