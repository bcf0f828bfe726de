/- Calls that are run once, by the kernel. No condition. -/
import Derived.Test.YthcadcdfoenclaaGreatDoorLiMd
import Derived.KernelRfl
set_option maxRecDepth 100000
namespace Go.Proofs.YthcadcdfoenclaaGreatDoor.Sim
open Go Go.RowKit
theorem me79 : ∀ ν, mRun (tab1.aT ν) 16 mm79 [.tmp 2,.tmp 3] [1,3,4,7,8,9,10] [] [] = some (16,mm79.nt,mm79.res,mm79.A1) := fun _ => by kernel_rfl
theorem me93 : ∀ ν, mRun (tab1.aT ν) 160 mm93 [.cell 4 58,.tmp 5] [1,2,3,5,7,13] [73] [] = some (160,mm93.nt,mm93.res,mm93.A1) := fun _ => by kernel_rfl
theorem me94 : ∀ ν, mRun (tab1.aT ν) 160 mm94 [.cell 4 58,.tmp 5] [0,2,3,4,7,10,11] [73] [] = some (160,mm94.nt,mm94.res,mm94.A1) := fun _ => by kernel_rfl
theorem me96 : ∀ ν, mRun (tab1.aT ν) 122 mm96 [.cell 6 179,.cell 7 171,.tmp 8] [0,5,6,7,11] [75,76] [] = some (122,mm96.nt,mm96.res,mm96.A1) := fun _ => by kernel_rfl
theorem me98 : ∀ ν, mRun (tab1.aT ν) 124 mm98 [.cell 8 55,.tmp 9] [2,3,5,6,8,9] [77] [] = some (124,mm98.nt,mm98.res,mm98.A1) := fun _ => by kernel_rfl
theorem me99 : ∀ ν, mRun (tab1.aT ν) 160 mm99 [.cell 4 58,.tmp 5] [0,1,5,7,8,10,13] [73] [] = some (160,mm99.nt,mm99.res,mm99.A1) := fun _ => by kernel_rfl
theorem me100 : ∀ ν, mRun (tab1.aT ν) 118 mm100 [.cell 4 184,.tmp 5] [0,1,2,3,7,9] [75] [] = some (118,mm100.nt,mm100.res,mm100.A1) := fun _ => by kernel_rfl
theorem me101 : ∀ ν, mRun (tab1.aT ν) 122 mm101 [.cell 6 179,.cell 7 171,.tmp 8] [0,1,5,7,8,9,11] [75,76,145,260] [] = some (122,mm101.nt,mm101.res,mm101.A1) := fun _ => by kernel_rfl
theorem me109 : ∀ ν, mRun (tab1.aT ν) 160 mm109 [.cell 4 58,.tmp 5] [1,2,3,5,7,13] [73] [] = some (160,mm109.nt,mm109.res,mm109.A1) := fun _ => by kernel_rfl
theorem me111 : ∀ ν, mRun (tab1.aT ν) 124 mm111 [.cell 8 55,.tmp 9] [0,1,2,3,4,5,6,7,8,9] [77] [] = some (124,mm111.nt,mm111.res,mm111.A1) := fun _ => by kernel_rfl
end Go.Proofs.YthcadcdfoenclaaGreatDoor.Sim
