/- Calls that are run once, by the kernel. No condition. -/
import Derived.Test.YthcadcdfoenclaaGreatDoorLiMd
import Derived.KernelRfl
set_option maxRecDepth 100000
namespace Go.Proofs.YthcadcdfoenclaaGreatDoor.Sim
open Go Go.RowKit
theorem me28 : ∀ ν, mRun (tab1.aT ν) 160 mm28 [.cell 4 58,.tmp 5] [1,2,3,5,7,13] [73] [] = some (160,mm28.nt,mm28.res,mm28.A1) := fun _ => by kernel_rfl
theorem me29 : ∀ ν, mRun (tab1.aT ν) 118 mm29 [.cell 4 184,.tmp 5] [0,1,2,3,4,5,6,7,8] [75] [] = some (118,mm29.nt,mm29.res,mm29.A1) := fun _ => by kernel_rfl
theorem me30 : ∀ ν, mRun (tab1.aT ν) 122 mm30 [.cell 6 179,.cell 7 171,.tmp 8] [0,2,4,9,11] [75,76,147,149] [] = some (122,mm30.nt,mm30.res,mm30.A1) := fun _ => by kernel_rfl
theorem me32 : ∀ ν, mRun (tab1.aT ν) 124 mm32 [.cell 8 55,.tmp 9] [0,1,2,3,4,5,6,7,8,9] [77] [] = some (124,mm32.nt,mm32.res,mm32.A1) := fun _ => by kernel_rfl
theorem me33 : ∀ ν, mRun (tab1.aT ν) 160 mm33 [.cell 4 58,.tmp 5] [0,1,5,7,8,10,13] [73] [] = some (160,mm33.nt,mm33.res,mm33.A1) := fun _ => by kernel_rfl
theorem me34 : ∀ ν, mRun (tab1.aT ν) 118 mm34 [.cell 4 184,.tmp 5] [0,1,2,3,7,9] [75] [] = some (118,mm34.nt,mm34.res,mm34.A1) := fun _ => by kernel_rfl
theorem me35 : ∀ ν, mRun (tab1.aT ν) 122 mm35 [.cell 6 179,.cell 7 171,.tmp 8] [0,1,5,7,8,9,11] [75,76,145,260] [] = some (122,mm35.nt,mm35.res,mm35.A1) := fun _ => by kernel_rfl
theorem me37 : ∀ ν, mRun (tab1.aT ν) 124 mm37 [.cell 8 55,.tmp 9] [1,4,5,6,7,10] [77] [] = some (124,mm37.nt,mm37.res,mm37.A1) := fun _ => by kernel_rfl
theorem me42 : ∀ ν, mRun (tab1.aT ν) 124 mm42 [.cell 8 55,.tmp 9] [1,4,5,6,7,10] [77] [] = some (124,mm42.nt,mm42.res,mm42.A1) := fun _ => by kernel_rfl
theorem me46 : ∀ ν, mRun (tab1.aT ν) 124 mm46 [.cell 8 55,.tmp 9] [1,4,5,6,7,10] [77] [] = some (124,mm46.nt,mm46.res,mm46.A1) := fun _ => by kernel_rfl
theorem me52 : ∀ ν, mRun (tab1.aT ν) 124 mm52 [.cell 8 55,.tmp 9] [0,1,2,3,4,5,6,7,8,9] [77] [] = some (124,mm52.nt,mm52.res,mm52.A1) := fun _ => by kernel_rfl
theorem me54 : ∀ ν, mRun (tab1.aT ν) 124 mm54 [.cell 8 55,.tmp 9] [0,1,2,3,4,5,6,7,8,9] [77] [] = some (124,mm54.nt,mm54.res,mm54.A1) := fun _ => by kernel_rfl
theorem me55 : ∀ ν, mRun (tab1.aT ν) 124 mm55 [.cell 8 55,.tmp 9] [1,4,5,6,7,10] [77] [] = some (124,mm55.nt,mm55.res,mm55.A1) := fun _ => by kernel_rfl
theorem me59 : ∀ ν, mRun (tab1.aT ν) 124 mm59 [.cell 8 55,.tmp 9] [1,4,5,6,7,10] [77] [] = some (124,mm59.nt,mm59.res,mm59.A1) := fun _ => by kernel_rfl
theorem me75 : ∀ ν, mRun (tab1.aT ν) 16 mm75 [.tmp 2,.tmp 3] [1,3,4,7,8,9,10] [] [] = some (16,mm75.nt,mm75.res,mm75.A1) := fun _ => by kernel_rfl
theorem me77 : ∀ ν, mRun (tab1.aT ν) 16 mm77 [.tmp 2,.tmp 3] [0,2,3,6,7,8,9,10] [] [] = some (16,mm77.nt,mm77.res,mm77.A1) := fun _ => by kernel_rfl
end Go.Proofs.YthcadcdfoenclaaGreatDoor.Sim
