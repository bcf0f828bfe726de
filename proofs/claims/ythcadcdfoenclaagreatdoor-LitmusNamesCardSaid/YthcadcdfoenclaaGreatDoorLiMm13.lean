/- Calls that are run once, by the kernel. No condition. -/
import Derived.Test.YthcadcdfoenclaaGreatDoorLiMd
import Derived.KernelRfl
set_option maxRecDepth 100000
namespace Go.Proofs.YthcadcdfoenclaaGreatDoor.Sim
open Go Go.RowKit
theorem me456 : ∀ ν, mRun (tab1.aT ν) 160 mm456 [.cell 4 58,.tmp 5] [1,2,3,5,7,13] [73] [] = some (160,mm456.nt,mm456.res,mm456.A1) := fun _ => by kernel_rfl
theorem me458 : ∀ ν, mRun (tab1.aT ν) 122 mm458 [.cell 6 179,.cell 7 171,.tmp 8] [0,2,3,4,9,11] [75,76,113,149,151] [113] = some (122,mm458.nt,mm458.res,mm458.A1) := fun _ => by kernel_rfl
theorem me480 : ∀ ν, mRun (tab1.aT ν) 160 mm480 [.cell 4 58,.tmp 5] [0,1,5,7,8,10,13] [73] [] = some (160,mm480.nt,mm480.res,mm480.A1) := fun _ => by kernel_rfl
theorem me481 : ∀ ν, mRun (tab1.aT ν) 160 mm481 [.cell 4 58,.tmp 5] [1,2,3,5,7,13] [73] [] = some (160,mm481.nt,mm481.res,mm481.A1) := fun _ => by kernel_rfl
theorem me483 : ∀ ν, mRun (tab1.aT ν) 122 mm483 [.cell 6 179,.cell 7 171,.tmp 8] [2,4,9,11] [75,76,113,149,151] [113] = some (122,mm483.nt,mm483.res,mm483.A1) := fun _ => by kernel_rfl
end Go.Proofs.YthcadcdfoenclaaGreatDoor.Sim
