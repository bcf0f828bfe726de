/- The run of the law, from state 24 to state 28. No condition. -/
import Derived.Test.YthcadcdfoenclaaGreatDoorLiSt0
import Derived.Test.YthcadcdfoenclaaGreatDoorLiMd
import Derived.Test.YthcadcdfoenclaaGreatDoorLiRy2
import Derived.KernelRfl
set_option maxRecDepth 100000
namespace Go.Proofs.YthcadcdfoenclaaGreatDoor.Sim
open Go Go.RowKit
theorem ze26 : gcS (keys zh26) (keys zg26) 293883 (aruns tab [2,7,8,11,12,13] zs25) = zs26 := by kernel_rfl
theorem ze27 : gcS (keys zh27) (keys zg27) 301156 (aruns tab [0,1,2,4,5,6,7,8,9,10,11,13] zs26) = zs27 := by kernel_rfl
theorem ze28 : gcS (keys zh28) (keys zg28) 304893 (aruns tab [1,4,5,7,8,9,10,11,12] zs27) = zs28 := by kernel_rfl
theorem run6 (f : FuncId) (v : Value) (k : Fin tab f v zs28) : Fin tab f v zs24 := .runs _ _ _ _ ze24m (.runs _ _ _ _ ze25 (.runs _ _ _ _ ze26 (.runs _ _ _ _ ze27 (.runs _ _ _ _ ze28 (k)))))
end Go.Proofs.YthcadcdfoenclaaGreatDoor.Sim
