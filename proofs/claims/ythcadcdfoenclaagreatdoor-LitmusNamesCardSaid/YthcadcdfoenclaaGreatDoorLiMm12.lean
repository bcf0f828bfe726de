/- Calls that are run once, by the kernel. No condition. -/
import Derived.Test.YthcadcdfoenclaaGreatDoorLiMd
import Derived.KernelRfl
set_option maxRecDepth 100000
namespace Go.Proofs.YthcadcdfoenclaaGreatDoor.Sim
open Go Go.RowKit
theorem me355 : ∀ ν, mRun (tab1.aT ν) 122 mm355 [.cell 6 179,.cell 7 171,.tmp 8] [0,1,3,5,7,8,9,11] [75,76,112,147,262] [112] = some (122,mm355.nt,mm355.res,mm355.A1) := fun _ => by kernel_rfl
theorem me362 : ∀ ν, mRun (tab1.aT ν) 124 mm362 [.cell 8 55,.tmp 9] [1,4,5,6,7,10] [77] [] = some (124,mm362.nt,mm362.res,mm362.A1) := fun _ => by kernel_rfl
theorem me447 : ∀ ν, mRun (tab1.aT ν) 160 mm447 [.cell 4 58,.tmp 5] [0,1,5,7,8,10,13] [73] [] = some (160,mm447.nt,mm447.res,mm447.A1) := fun _ => by kernel_rfl
theorem me448 : ∀ ν, mRun (tab1.aT ν) 118 mm448 [.cell 4 184,.tmp 5] [0,1,2,3,7,9] [75] [] = some (118,mm448.nt,mm448.res,mm448.A1) := fun _ => by kernel_rfl
theorem me450 : ∀ ν, mRun (tab1.aT ν) 124 mm450 [.cell 8 55,.tmp 9] [1,4,5,6,7,10] [77] [] = some (124,mm450.nt,mm450.res,mm450.A1) := fun _ => by kernel_rfl
theorem me451 : ∀ ν, mRun (tab1.aT ν) 160 mm451 [.cell 4 58,.tmp 5] [1,2,3,5,7,13] [73] [] = some (160,mm451.nt,mm451.res,mm451.A1) := fun _ => by kernel_rfl
theorem me452 : ∀ ν, mRun (tab1.aT ν) 122 mm452 [.cell 6 179,.cell 7 171,.tmp 8] [0,2,3,4,9,11] [75,76,113,149,151] [113] = some (122,mm452.nt,mm452.res,mm452.A1) := fun _ => by kernel_rfl
theorem me455 : ∀ ν, mRun (tab1.aT ν) 160 mm455 [.cell 4 58,.tmp 5] [0,1,5,7,8,10,13] [73] [] = some (160,mm455.nt,mm455.res,mm455.A1) := fun _ => by kernel_rfl
end Go.Proofs.YthcadcdfoenclaaGreatDoor.Sim
