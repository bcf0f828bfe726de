/- The run of the law, from state 44 to state 48. No condition. -/
import Derived.Test.YthcadcdfoenclaaGreatDoorLiSt0
import Derived.Test.YthcadcdfoenclaaGreatDoorLiMd
import Derived.KernelRfl
set_option maxRecDepth 100000
namespace Go.Proofs.YthcadcdfoenclaaGreatDoor.Sim
open Go Go.RowKit
theorem ze45 : gcS (keys zh45) (keys zg45) 507420 (aruns tab [0,2,3,4,8,11,12,13] zs44) = zs45 := by kernel_rfl
theorem ze46 : gcS (keys zh46) (keys zg46) 527899 (aruns tab [0,2,5,7,9,11,12,13] zs45) = zs46 := by kernel_rfl
theorem ze47 : gcS (keys zh47) (keys zg47) 547821 (aruns tab [0,1,5,8,9,10,11,13] zs46) = zs47 := by kernel_rfl
theorem ze48 : gcS (keys zh48) (keys zg48) 556408 (aruns tab [0,4,5,7,10,11,12,13] zs47) = zs48 := by kernel_rfl
theorem run11 (f : FuncId) (v : Value) (k : Fin tab f v zs48) : Fin tab f v zs44 := .runs _ _ _ _ ze45 (.runs _ _ _ _ ze46 (.runs _ _ _ _ ze47 (.runs _ _ _ _ ze48 (k))))
end Go.Proofs.YthcadcdfoenclaaGreatDoor.Sim
