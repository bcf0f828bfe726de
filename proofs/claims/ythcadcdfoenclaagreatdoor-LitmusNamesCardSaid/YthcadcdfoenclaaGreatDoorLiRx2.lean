/- The run of the law, a part alone. No condition. -/
import Derived.Test.YthcadcdfoenclaaGreatDoorLiSt0
import Derived.Test.YthcadcdfoenclaaGreatDoorLiMd
import Derived.KernelRfl
set_option maxRecDepth 100000
namespace Go.Proofs.YthcadcdfoenclaaGreatDoor.Sim
open Go Go.RowKit
theorem ze63 : gcS (keys zh63) (keys zg63) 740181 (aruns tab [1,2,5,6,7,9,11,13] zs62) = zs63 := by kernel_rfl
end Go.Proofs.YthcadcdfoenclaaGreatDoor.Sim
