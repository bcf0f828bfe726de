/- Calls that are run once, by the kernel. No condition. -/
import Derived.Test.YthcadcdfoenclaaGreatDoorLiMd
import Derived.KernelRfl
set_option maxRecDepth 100000
namespace Go.Proofs.YthcadcdfoenclaaGreatDoor.Sim
open Go Go.RowKit
theorem me112 : ∀ ν, mRun (tab1.aT ν) 160 mm112 [.cell 4 58,.tmp 5] [0,2,3,4,7,10,11] [73] [] = some (160,mm112.nt,mm112.res,mm112.A1) := fun _ => by kernel_rfl
theorem me115 : ∀ ν, mRun (tab1.aT ν) 124 mm115 [.cell 8 55,.tmp 9] [2,3,5,6,8,9] [77] [] = some (124,mm115.nt,mm115.res,mm115.A1) := fun _ => by kernel_rfl
theorem me116 : ∀ ν, mRun (tab1.aT ν) 160 mm116 [.cell 4 58,.tmp 5] [0,1,5,7,8,10,13] [73] [] = some (160,mm116.nt,mm116.res,mm116.A1) := fun _ => by kernel_rfl
theorem me117 : ∀ ν, mRun (tab1.aT ν) 118 mm117 [.cell 4 184,.tmp 5] [0,1,2,3,7,9] [75] [] = some (118,mm117.nt,mm117.res,mm117.A1) := fun _ => by kernel_rfl
theorem me118 : ∀ ν, mRun (tab1.aT ν) 122 mm118 [.cell 6 179,.cell 7 171,.tmp 8] [0,1,5,7,8,9,11] [75,76,145,260] [] = some (122,mm118.nt,mm118.res,mm118.A1) := fun _ => by kernel_rfl
theorem me245 : ∀ ν, mRun (tab1.aT ν) 160 mm245 [.cell 4 58,.tmp 5] [1,2,3,5,7,13] [73] [] = some (160,mm245.nt,mm245.res,mm245.A1) := fun _ => by kernel_rfl
theorem me251 : ∀ ν, mRun (tab1.aT ν) 160 mm251 [.cell 4 58,.tmp 5] [0,1,5,7,8,10,13] [73] [] = some (160,mm251.nt,mm251.res,mm251.A1) := fun _ => by kernel_rfl
theorem me252 : ∀ ν, mRun (tab1.aT ν) 118 mm252 [.cell 4 184,.tmp 5] [0,1,2,3,7,9] [75] [] = some (118,mm252.nt,mm252.res,mm252.A1) := fun _ => by kernel_rfl
theorem me253 : ∀ ν, mRun (tab1.aT ν) 122 mm253 [.cell 6 179,.cell 7 171,.tmp 8] [0,1,5,7,8,9,11] [75,76,145,260] [] = some (122,mm253.nt,mm253.res,mm253.A1) := fun _ => by kernel_rfl
end Go.Proofs.YthcadcdfoenclaaGreatDoor.Sim
