/- Calls that are run once, by the kernel. No condition. -/
import Derived.Test.YthcadcdfoenclaaGreatDoorLiMd
import Derived.KernelRfl
set_option maxRecDepth 100000
namespace Go.Proofs.YthcadcdfoenclaaGreatDoor.Sim
open Go Go.RowKit
theorem me0 : ∀ ν, mRun (tab0.aT ν) 4 mm0 [.cell 2 30,.tmp 3] [0,2,4,6,11,12,13] [74,75,1065,1998] [128,451] = some (4,mm0.nt,mm0.res,mm0.A1) := fun _ => by kernel_rfl
theorem me2 : ∀ ν, mRun (tab0.aT ν) 112 mm2 [.cell 4 58,.tmp 5] [1,2,5,6,7,10,13] [74] [] = some (112,mm2.nt,mm2.res,mm2.A1) := fun _ => by kernel_rfl
theorem me3 : ∀ ν, mRun (tab0.aT ν) 56 mm3 [.tmp 2] [0,4,6,8] [] [] = some (56,mm3.nt,mm3.res,mm3.A1) := fun _ => by kernel_rfl
theorem me4 : ∀ ν, mRun (tab0.aT ν) 113 mm4 [.tmp 2,.tmp 3,.tmp 4] [0,1,4,6,8] [] [] = some (113,mm4.nt,mm4.res,mm4.A1) := fun _ => by kernel_rfl
theorem me5 : ∀ ν, mRun (tab0.aT ν) 112 mm5 [.cell 4 58,.tmp 5] [0,1,2,4,7,8,9,11,13] [74] [] = some (112,mm5.nt,mm5.res,mm5.A1) := fun _ => by kernel_rfl
theorem me6 : ∀ ν, mRun (tab0.aT ν) 56 mm6 [.tmp 2] [0,2,5,6,7,8] [] [] = some (56,mm6.nt,mm6.res,mm6.A1) := fun _ => by kernel_rfl
theorem me7 : ∀ ν, mRun (tab0.aT ν) 113 mm7 [.tmp 2,.tmp 3,.tmp 4] [0,1,2,5,6,7,8] [] [] = some (113,mm7.nt,mm7.res,mm7.A1) := fun _ => by kernel_rfl
end Go.Proofs.YthcadcdfoenclaaGreatDoor.Sim
