/- Calls that are run once, by the kernel. No condition. -/
import Derived.Test.YthcadcdfoenclaaGreatDoorLiMd
import Derived.KernelRfl
set_option maxRecDepth 100000
namespace Go.Proofs.YthcadcdfoenclaaGreatDoor.Sim
open Go Go.RowKit
theorem me338 : ∀ ν, mRun (tab1.aT ν) 160 mm338 [.cell 4 58,.tmp 5] [1,2,3,5,7,13] [73] [] = some (160,mm338.nt,mm338.res,mm338.A1) := fun _ => by kernel_rfl
theorem me340 : ∀ ν, mRun (tab1.aT ν) 122 mm340 [.cell 6 179,.cell 7 171,.tmp 8] [0,2,4,9,11] [75,76,147,149] [] = some (122,mm340.nt,mm340.res,mm340.A1) := fun _ => by kernel_rfl
theorem me345 : ∀ ν, mRun (tab1.aT ν) 160 mm345 [.cell 4 58,.tmp 5] [0,1,5,7,8,10,13] [73] [] = some (160,mm345.nt,mm345.res,mm345.A1) := fun _ => by kernel_rfl
theorem me346 : ∀ ν, mRun (tab1.aT ν) 118 mm346 [.cell 4 184,.tmp 5] [0,1,2,3,7,9] [75] [] = some (118,mm346.nt,mm346.res,mm346.A1) := fun _ => by kernel_rfl
theorem me347 : ∀ ν, mRun (tab1.aT ν) 124 mm347 [.cell 8 55,.tmp 9] [1,4,5,6,7,10] [77] [] = some (124,mm347.nt,mm347.res,mm347.A1) := fun _ => by kernel_rfl
theorem me348 : ∀ ν, mRun (tab1.aT ν) 160 mm348 [.cell 4 58,.tmp 5] [0,2,3,4,7,10,11] [73] [] = some (160,mm348.nt,mm348.res,mm348.A1) := fun _ => by kernel_rfl
theorem me350 : ∀ ν, mRun (tab1.aT ν) 122 mm350 [.cell 6 179,.cell 7 171,.tmp 8] [0,3,5,6,7,11] [75,76,123] [123] = some (122,mm350.nt,mm350.res,mm350.A1) := fun _ => by kernel_rfl
theorem me352 : ∀ ν, mRun (tab1.aT ν) 124 mm352 [.cell 8 55,.tmp 9] [2,3,5,6,8,9] [77] [] = some (124,mm352.nt,mm352.res,mm352.A1) := fun _ => by kernel_rfl
theorem me353 : ∀ ν, mRun (tab1.aT ν) 160 mm353 [.cell 4 58,.tmp 5] [0,1,5,7,8,10,13] [73] [] = some (160,mm353.nt,mm353.res,mm353.A1) := fun _ => by kernel_rfl
theorem me354 : ∀ ν, mRun (tab1.aT ν) 118 mm354 [.cell 4 184,.tmp 5] [0,1,2,3,7,9] [75] [] = some (118,mm354.nt,mm354.res,mm354.A1) := fun _ => by kernel_rfl
end Go.Proofs.YthcadcdfoenclaaGreatDoor.Sim
