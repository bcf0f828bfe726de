/- Calls that are run once, by the kernel. No condition. -/
import Derived.Test.YthcadcdfoenclaaGreatDoorLiMd
import Derived.KernelRfl
set_option maxRecDepth 100000
namespace Go.Proofs.YthcadcdfoenclaaGreatDoor.Sim
open Go Go.RowKit
theorem me298 : ∀ ν, mRun (tab1.aT ν) 160 mm298 [.cell 4 58,.tmp 5] [0,1,5,7,8,10,13] [73] [] = some (160,mm298.nt,mm298.res,mm298.A1) := fun _ => by kernel_rfl
theorem me299 : ∀ ν, mRun (tab1.aT ν) 118 mm299 [.cell 4 184,.tmp 5] [0,1,2,3,7,9] [75] [] = some (118,mm299.nt,mm299.res,mm299.A1) := fun _ => by kernel_rfl
theorem me300 : ∀ ν, mRun (tab1.aT ν) 122 mm300 [.cell 6 179,.cell 7 171,.tmp 8] [0,1,5,7,8,9,11] [75,76,145,260] [] = some (122,mm300.nt,mm300.res,mm300.A1) := fun _ => by kernel_rfl
theorem me302 : ∀ ν, mRun (tab1.aT ν) 124 mm302 [.cell 8 55,.tmp 9] [1,4,5,6,7,10] [77] [] = some (124,mm302.nt,mm302.res,mm302.A1) := fun _ => by kernel_rfl
theorem me303 : ∀ ν, mRun (tab1.aT ν) 160 mm303 [.cell 4 58,.tmp 5] [0,1,5,7,8,10,13] [73] [] = some (160,mm303.nt,mm303.res,mm303.A1) := fun _ => by kernel_rfl
theorem me304 : ∀ ν, mRun (tab1.aT ν) 118 mm304 [.cell 4 184,.tmp 5] [0,1,2,3,7,9] [75] [] = some (118,mm304.nt,mm304.res,mm304.A1) := fun _ => by kernel_rfl
theorem me311 : ∀ ν, mRun (tab1.aT ν) 124 mm311 [.cell 8 55,.tmp 9] [1,4,5,6,7,10] [77] [] = some (124,mm311.nt,mm311.res,mm311.A1) := fun _ => by kernel_rfl
theorem me332 : ∀ ν, mRun (tab1.aT ν) 160 mm332 [.cell 4 58,.tmp 5] [1,2,3,5,7,13] [73] [] = some (160,mm332.nt,mm332.res,mm332.A1) := fun _ => by kernel_rfl
theorem me333 : ∀ ν, mRun (tab1.aT ν) 160 mm333 [.cell 4 58,.tmp 5] [0,2,3,4,7,10,11] [73] [] = some (160,mm333.nt,mm333.res,mm333.A1) := fun _ => by kernel_rfl
theorem me335 : ∀ ν, mRun (tab1.aT ν) 122 mm335 [.cell 6 179,.cell 7 171,.tmp 8] [0,5,6,7,11] [75,76] [] = some (122,mm335.nt,mm335.res,mm335.A1) := fun _ => by kernel_rfl
end Go.Proofs.YthcadcdfoenclaaGreatDoor.Sim
