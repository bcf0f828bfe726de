/- Calls that are run once, by the kernel. No condition. -/
import Derived.Test.YthcadcdfoenclaaGreatDoorLiMd
import Derived.KernelRfl
set_option maxRecDepth 100000
namespace Go.Proofs.YthcadcdfoenclaaGreatDoor.Sim
open Go Go.RowKit
theorem me255 : ∀ ν, mRun (tab1.aT ν) 124 mm255 [.cell 8 55,.tmp 9] [1,4,5,6,7,10] [77] [] = some (124,mm255.nt,mm255.res,mm255.A1) := fun _ => by kernel_rfl
theorem me256 : ∀ ν, mRun (tab1.aT ν) 160 mm256 [.cell 4 58,.tmp 5] [0,1,5,7,8,10,13] [73] [] = some (160,mm256.nt,mm256.res,mm256.A1) := fun _ => by kernel_rfl
theorem me257 : ∀ ν, mRun (tab1.aT ν) 118 mm257 [.cell 4 184,.tmp 5] [0,1,2,3,7,9] [75] [] = some (118,mm257.nt,mm257.res,mm257.A1) := fun _ => by kernel_rfl
theorem me258 : ∀ ν, mRun (tab1.aT ν) 122 mm258 [.cell 6 179,.cell 7 171,.tmp 8] [0,1,3,5,7,8,9,11] [75,76,112,147,262] [112] = some (122,mm258.nt,mm258.res,mm258.A1) := fun _ => by kernel_rfl
theorem me268 : ∀ ν, mRun (tab1.aT ν) 124 mm268 [.cell 8 55,.tmp 9] [1,4,5,6,7,10] [77] [] = some (124,mm268.nt,mm268.res,mm268.A1) := fun _ => by kernel_rfl
theorem me290 : ∀ ν, mRun (tab1.aT ν) 160 mm290 [.cell 4 58,.tmp 5] [1,2,3,5,7,13] [73] [] = some (160,mm290.nt,mm290.res,mm290.A1) := fun _ => by kernel_rfl
theorem me291 : ∀ ν, mRun (tab1.aT ν) 160 mm291 [.cell 4 58,.tmp 5] [1,2,3,5,7,13] [73] [] = some (160,mm291.nt,mm291.res,mm291.A1) := fun _ => by kernel_rfl
theorem me292 : ∀ ν, mRun (tab1.aT ν) 118 mm292 [.cell 4 184,.tmp 5] [0,1,2,3,4,5,6,7,8] [75] [] = some (118,mm292.nt,mm292.res,mm292.A1) := fun _ => by kernel_rfl
theorem me293 : ∀ ν, mRun (tab1.aT ν) 122 mm293 [.cell 6 179,.cell 7 171,.tmp 8] [0,2,4,9,11] [75,76,147,149] [] = some (122,mm293.nt,mm293.res,mm293.A1) := fun _ => by kernel_rfl
theorem me295 : ∀ ν, mRun (tab1.aT ν) 124 mm295 [.cell 8 55,.tmp 9] [0,1,2,3,4,5,6,7,8,9] [77] [] = some (124,mm295.nt,mm295.res,mm295.A1) := fun _ => by kernel_rfl
end Go.Proofs.YthcadcdfoenclaaGreatDoor.Sim
