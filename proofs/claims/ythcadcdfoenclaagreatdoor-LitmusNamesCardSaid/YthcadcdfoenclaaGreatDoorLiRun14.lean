/- The run of the law, from state 56 to state 60. No condition. -/
import Derived.Test.YthcadcdfoenclaaGreatDoorLiSt0
import Derived.Test.YthcadcdfoenclaaGreatDoorLiMd
import Derived.KernelRfl
set_option maxRecDepth 100000
namespace Go.Proofs.YthcadcdfoenclaaGreatDoor.Sim
open Go Go.RowKit
theorem ze57 : gcS (keys zh57) (keys zg57) 654976 (aruns tab [1,2,3,11,13] zs56) = zs57 := by kernel_rfl
theorem ze58 : gcS (keys zh58) (keys zg58) 660971 (aruns tab [0,1,4,5,10,12,13] zs57) = zs58 := by kernel_rfl
theorem ze59 : gcS (keys zh59) (keys zg59) 665699 (aruns tab [1,2,3,4,5,6,8,9,10,11,13] zs58) = zs59 := by kernel_rfl
theorem ze60 : gcS (keys zh60) (keys zg60) 669588 (aruns tab [0,3,6,8,10,13] zs59) = zs60 := by kernel_rfl
theorem run14 (f : FuncId) (v : Value) (k : Fin tab f v zs60) : Fin tab f v zs56 := .runs _ _ _ _ ze57 (.runs _ _ _ _ ze58 (.runs _ _ _ _ ze59 (.runs _ _ _ _ ze60 (k))))
end Go.Proofs.YthcadcdfoenclaaGreatDoor.Sim
