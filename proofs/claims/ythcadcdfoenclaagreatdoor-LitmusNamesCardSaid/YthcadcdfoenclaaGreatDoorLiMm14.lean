/- Calls that are run once, by the kernel. No condition. -/
import Derived.Test.YthcadcdfoenclaaGreatDoorLiMd
import Derived.KernelRfl
set_option maxRecDepth 100000
namespace Go.Proofs.YthcadcdfoenclaaGreatDoor.Sim
open Go Go.RowKit
theorem me487 : ∀ ν, mRun (tab1.aT ν) 160 mm487 [.cell 4 58,.tmp 5] [0,1,5,7,8,10,13] [73] [] = some (160,mm487.nt,mm487.res,mm487.A1) := fun _ => by kernel_rfl
theorem me488 : ∀ ν, mRun (tab1.aT ν) 160 mm488 [.cell 4 58,.tmp 5] [1,2,3,5,7,13] [73] [] = some (160,mm488.nt,mm488.res,mm488.A1) := fun _ => by kernel_rfl
theorem me490 : ∀ ν, mRun (tab1.aT ν) 122 mm490 [.cell 6 179,.cell 7 171,.tmp 8] [2,4,9,11] [75,76,113,149,151] [113] = some (122,mm490.nt,mm490.res,mm490.A1) := fun _ => by kernel_rfl
end Go.Proofs.YthcadcdfoenclaaGreatDoor.Sim
