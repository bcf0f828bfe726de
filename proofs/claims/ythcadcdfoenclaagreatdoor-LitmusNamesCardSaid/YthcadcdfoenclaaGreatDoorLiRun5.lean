/- The run of the law, from state 20 to state 24. No condition. -/
import Derived.Test.YthcadcdfoenclaaGreatDoorLiSt0
import Derived.Test.YthcadcdfoenclaaGreatDoorLiMd
import Derived.KernelRfl
set_option maxRecDepth 100000
namespace Go.Proofs.YthcadcdfoenclaaGreatDoor.Sim
open Go Go.RowKit
theorem ze21 : gcS (keys zh21) (keys zg21) 238283 (aruns tab [2,7,9,10,11,13] zs20) = zs21 := by kernel_rfl
theorem ze22 : gcS (keys zh22) (keys zg22) 265968 (aruns tab [0,1,3,5,8,9,10,12,13] zs21) = zs22 := by kernel_rfl
theorem ze23 : gcS (keys zh23) (keys zg23) 270928 (aruns tab [0,1,3,6,9,10,11,13] zs22) = zs23 := by kernel_rfl
theorem ze24 : gcS (keys zh24) (keys zg24) 278268 (aruns tab [0,1,2,3,5,7,12,13] zs23) = zs24 := by kernel_rfl
theorem run5 (f : FuncId) (v : Value) (k : Fin tab f v zs24) : Fin tab f v zs20 := .runs _ _ _ _ ze21 (.runs _ _ _ _ ze22 (.runs _ _ _ _ ze23 (.runs _ _ _ _ ze24 (k))))
end Go.Proofs.YthcadcdfoenclaaGreatDoor.Sim
