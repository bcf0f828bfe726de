/- The run of the law, from state 48 to state 52. No condition. -/
import Derived.Test.YthcadcdfoenclaaGreatDoorLiSt0
import Derived.Test.YthcadcdfoenclaaGreatDoorLiMd
import Derived.KernelRfl
set_option maxRecDepth 100000
namespace Go.Proofs.YthcadcdfoenclaaGreatDoor.Sim
open Go Go.RowKit
theorem ze49 : gcS (keys zh49) (keys zg49) 563726 (aruns tab [1,2,3,5,6,7,8,9,10,11,13] zs48) = zs49 := by kernel_rfl
theorem ze50 : gcS (keys zh50) (keys zg50) 568635 (aruns tab [0,3,4,5,8,9,12,13] zs49) = zs50 := by kernel_rfl
theorem ze51 : gcS (keys zh51) (keys zg51) 575749 (aruns tab [2,4,6,7,9,10,11,13] zs50) = zs51 := by kernel_rfl
theorem ze52 : gcS (keys zh52) (keys zg52) 583229 (aruns tab [1,2,3,4,7,8,10,12,13] zs51) = zs52 := by kernel_rfl
theorem run12 (f : FuncId) (v : Value) (k : Fin tab f v zs52) : Fin tab f v zs48 := .runs _ _ _ _ ze49 (.runs _ _ _ _ ze50 (.runs _ _ _ _ ze51 (.runs _ _ _ _ ze52 (k))))
end Go.Proofs.YthcadcdfoenclaaGreatDoor.Sim
