/- The run of the law, from state 36 to state 40. No condition. -/
import Derived.Test.YthcadcdfoenclaaGreatDoorLiSt0
import Derived.Test.YthcadcdfoenclaaGreatDoorLiMd
import Derived.KernelRfl
set_option maxRecDepth 100000
namespace Go.Proofs.YthcadcdfoenclaaGreatDoor.Sim
open Go Go.RowKit
theorem ze37 : gcS (keys zh37) (keys zg37) 410646 (aruns tab [1,2,3,4,7,8,9,10,11,13] zs36) = zs37 := by kernel_rfl
theorem ze38 : gcS (keys zh38) (keys zg38) 436071 (aruns tab [0,1,3,5,7,8,9,10,12,13] zs37) = zs38 := by kernel_rfl
theorem ze39 : gcS (keys zh39) (keys zg39) 447770 (aruns tab [0,1,3,5,6,7,8,9,10,12,13] zs38) = zs39 := by kernel_rfl
theorem ze40 : gcS (keys zh40) (keys zg40) 451764 (aruns tab [0,1,3,5,8,11,13] zs39) = zs40 := by kernel_rfl
theorem run9 (f : FuncId) (v : Value) (k : Fin tab f v zs40) : Fin tab f v zs36 := .runs _ _ _ _ ze37 (.runs _ _ _ _ ze38 (.runs _ _ _ _ ze39 (.runs _ _ _ _ ze40 (k))))
end Go.Proofs.YthcadcdfoenclaaGreatDoor.Sim
