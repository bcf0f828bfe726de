/- Calls that are run once, by the kernel. No condition. -/
import Derived.Test.YthcadcdfoenclaaGreatDoorLiMd
import Derived.KernelRfl
set_option maxRecDepth 100000
namespace Go.Proofs.YthcadcdfoenclaaGreatDoor.Sim
open Go Go.RowKit
theorem me358 : ∀ ν, mRun (tab0.aT ν) 122 mm358 [.cell 6 179,.cell 7 171,.tmp 8] [2,4,7,8,10,11] [75,76,116,118] [116,118] = some (122,mm358.nt,mm358.res,mm358.A1) := fun _ => by kernel_rfl
theorem me386 : ∀ ν, mRun (tab0.aT ν) 267 mm386 [.tmp 4] [2,3,6,7,8] [] [] = some (267,mm386.nt,mm386.res,mm386.A1) := fun _ => by kernel_rfl
theorem me387 : ∀ ν, mRun (tab0.aT ν) 267 mm387 [.tmp 4] [1,2,6,7,8] [] [] = some (267,mm387.nt,mm387.res,mm387.A1) := fun _ => by kernel_rfl
theorem me411 : ∀ ν, mRun (tab0.aT ν) 267 mm411 [.tmp 4] [1,2,6,7,8] [] [] = some (267,mm411.nt,mm411.res,mm411.A1) := fun _ => by kernel_rfl
theorem me453 : ∀ ν, mRun (tab0.aT ν) 160 mm453 [.cell 4 58,.tmp 5] [3,6,9,10,12] [73] [] = some (160,mm453.nt,mm453.res,mm453.A1) := fun _ => by kernel_rfl
theorem me454 : ∀ ν, mRun (tab0.aT ν) 122 mm454 [.cell 6 179,.cell 7 171,.tmp 8] [2,3,7,8,10,11] [75,76,116] [116] = some (122,mm454.nt,mm454.res,mm454.A1) := fun _ => by kernel_rfl
theorem me461 : ∀ ν, mRun (tab0.aT ν) 160 mm461 [.cell 4 58,.tmp 5] [3,6,9,10,12] [73] [] = some (160,mm461.nt,mm461.res,mm461.A1) := fun _ => by kernel_rfl
theorem me486 : ∀ ν, mRun (tab0.aT ν) 160 mm486 [.cell 4 58,.tmp 5] [3,6,9,10,12] [73] [] = some (160,mm486.nt,mm486.res,mm486.A1) := fun _ => by kernel_rfl
theorem me493 : ∀ ν, mRun (tab0.aT ν) 160 mm493 [.cell 4 58,.tmp 5] [3,6,9,10,12] [73] [] = some (160,mm493.nt,mm493.res,mm493.A1) := fun _ => by kernel_rfl
theorem me9 : ∀ ν, mRun (tab1.aT ν) 112 mm9 [.cell 4 58,.tmp 5] [0,1,4,5,6,7,13] [74] [] = some (112,mm9.nt,mm9.res,mm9.A1) := fun _ => by kernel_rfl
end Go.Proofs.YthcadcdfoenclaaGreatDoor.Sim
