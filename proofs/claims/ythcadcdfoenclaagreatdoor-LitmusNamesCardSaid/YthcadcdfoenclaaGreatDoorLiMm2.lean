/- Calls that are run once, by the kernel. No condition. -/
import Derived.Test.YthcadcdfoenclaaGreatDoorLiMd
import Derived.KernelRfl
set_option maxRecDepth 100000
namespace Go.Proofs.YthcadcdfoenclaaGreatDoor.Sim
open Go Go.RowKit
theorem me60 : ∀ ν, mRun (tab0.aT ν) 124 mm60 [.cell 8 55,.tmp 9] [1,2,4,5,6,8,10] [77] [] = some (124,mm60.nt,mm60.res,mm60.A1) := fun _ => by kernel_rfl
theorem me76 : ∀ ν, mRun (tab0.aT ν) 16 mm76 [.tmp 2,.tmp 3] [0,1,2,3,6,11] [] [] = some (16,mm76.nt,mm76.res,mm76.A1) := fun _ => by kernel_rfl
theorem me78 : ∀ ν, mRun (tab0.aT ν) 16 mm78 [.tmp 2,.tmp 3] [3,8,11] [] [] = some (16,mm78.nt,mm78.res,mm78.A1) := fun _ => by kernel_rfl
theorem me84 : ∀ ν, mRun (tab0.aT ν) 56 mm84 [.tmp 2] [2,3,4,5,8] [] [] = some (56,mm84.nt,mm84.res,mm84.A1) := fun _ => by kernel_rfl
theorem me85 : ∀ ν, mRun (tab0.aT ν) 113 mm85 [.tmp 2,.tmp 3,.tmp 4] [1,2,3,4,5,8] [] [] = some (113,mm85.nt,mm85.res,mm85.A1) := fun _ => by kernel_rfl
theorem me104 : ∀ ν, mRun (tab0.aT ν) 160 mm104 [.cell 4 58,.tmp 5] [3,6,9,10,12] [73] [] = some (160,mm104.nt,mm104.res,mm104.A1) := fun _ => by kernel_rfl
theorem me105 : ∀ ν, mRun (tab0.aT ν) 118 mm105 [.cell 4 184,.tmp 5] [0,4,5,6,8,10] [75] [] = some (118,mm105.nt,mm105.res,mm105.A1) := fun _ => by kernel_rfl
theorem me106 : ∀ ν, mRun (tab0.aT ν) 122 mm106 [.cell 6 179,.cell 7 171,.tmp 8] [2,3,7,8,10,11] [75,76,116] [116] = some (122,mm106.nt,mm106.res,mm106.A1) := fun _ => by kernel_rfl
theorem me107 : ∀ ν, mRun (tab0.aT ν) 124 mm107 [.cell 8 55,.tmp 9] [1,2,4,5,6,8,10] [77] [] = some (124,mm107.nt,mm107.res,mm107.A1) := fun _ => by kernel_rfl
theorem me121 : ∀ ν, mRun (tab0.aT ν) 160 mm121 [.cell 4 58,.tmp 5] [3,6,9,10,12] [73] [] = some (160,mm121.nt,mm121.res,mm121.A1) := fun _ => by kernel_rfl
theorem me122 : ∀ ν, mRun (tab0.aT ν) 118 mm122 [.cell 4 184,.tmp 5] [0,4,5,6,8,10] [75] [] = some (118,mm122.nt,mm122.res,mm122.A1) := fun _ => by kernel_rfl
theorem me123 : ∀ ν, mRun (tab0.aT ν) 124 mm123 [.cell 8 55,.tmp 9] [1,2,4,5,6,8,10] [77] [] = some (124,mm123.nt,mm123.res,mm123.A1) := fun _ => by kernel_rfl
theorem me130 : ∀ ν, mRun (tab0.aT ν) 118 mm130 [.cell 4 184,.tmp 5] [0,4,5,6,8,10] [75] [] = some (118,mm130.nt,mm130.res,mm130.A1) := fun _ => by kernel_rfl
theorem me131 : ∀ ν, mRun (tab0.aT ν) 124 mm131 [.cell 8 55,.tmp 9] [1,2,4,5,6,8,10] [77] [] = some (124,mm131.nt,mm131.res,mm131.A1) := fun _ => by kernel_rfl
theorem me135 : ∀ ν, mRun (tab0.aT ν) 149 mm135 [.tmp 2] [0,2,3,5] [] [] = some (149,mm135.nt,mm135.res,mm135.A1) := fun _ => by kernel_rfl
theorem me158 : ∀ ν, mRun (tab0.aT ν) 267 mm158 [.tmp 4] [0,3,6,7,8] [] [] = some (267,mm158.nt,mm158.res,mm158.A1) := fun _ => by kernel_rfl
theorem me159 : ∀ ν, mRun (tab0.aT ν) 267 mm159 [.tmp 4] [0,3,6,7,8] [] [] = some (267,mm159.nt,mm159.res,mm159.A1) := fun _ => by kernel_rfl
theorem me222 : ∀ ν, mRun (tab0.aT ν) 267 mm222 [.tmp 4] [0,3,6,7,8] [] [] = some (267,mm222.nt,mm222.res,mm222.A1) := fun _ => by kernel_rfl
theorem me246 : ∀ ν, mRun (tab0.aT ν) 160 mm246 [.cell 4 58,.tmp 5] [3,6,9,10,12] [73] [] = some (160,mm246.nt,mm246.res,mm246.A1) := fun _ => by kernel_rfl
theorem me247 : ∀ ν, mRun (tab0.aT ν) 118 mm247 [.cell 4 184,.tmp 5] [0,4,5,6,8,10] [75] [] = some (118,mm247.nt,mm247.res,mm247.A1) := fun _ => by kernel_rfl
end Go.Proofs.YthcadcdfoenclaaGreatDoor.Sim
