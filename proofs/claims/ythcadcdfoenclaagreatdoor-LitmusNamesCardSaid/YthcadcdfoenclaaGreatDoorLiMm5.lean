/- Calls that are run once, by the kernel. No condition. -/
import Derived.Test.YthcadcdfoenclaaGreatDoorLiMd
import Derived.KernelRfl
set_option maxRecDepth 100000
namespace Go.Proofs.YthcadcdfoenclaaGreatDoor.Sim
open Go Go.RowKit
theorem me10 : ∀ ν, mRun (tab1.aT ν) 112 mm10 [.cell 4 58,.tmp 5] [3,5,6,7,8,10,13] [74] [] = some (112,mm10.nt,mm10.res,mm10.A1) := fun _ => by kernel_rfl
theorem me13 : ∀ ν, mRun (tab1.aT ν) 160 mm13 [.cell 4 58,.tmp 5] [1,2,3,5,7,13] [73] [] = some (160,mm13.nt,mm13.res,mm13.A1) := fun _ => by kernel_rfl
theorem me14 : ∀ ν, mRun (tab1.aT ν) 118 mm14 [.cell 4 184,.tmp 5] [0,1,2,3,4,5,6,7,8] [75] [] = some (118,mm14.nt,mm14.res,mm14.A1) := fun _ => by kernel_rfl
theorem me15 : ∀ ν, mRun (tab1.aT ν) 122 mm15 [.cell 6 179,.cell 7 171,.tmp 8] [0,2,4,9,11] [75,76,147,149] [] = some (122,mm15.nt,mm15.res,mm15.A1) := fun _ => by kernel_rfl
theorem me17 : ∀ ν, mRun (tab1.aT ν) 124 mm17 [.cell 8 55,.tmp 9] [0,1,2,3,4,5,6,7,8,9] [77] [] = some (124,mm17.nt,mm17.res,mm17.A1) := fun _ => by kernel_rfl
theorem me18 : ∀ ν, mRun (tab1.aT ν) 160 mm18 [.cell 4 58,.tmp 5] [0,1,5,7,8,10,13] [73] [] = some (160,mm18.nt,mm18.res,mm18.A1) := fun _ => by kernel_rfl
theorem me19 : ∀ ν, mRun (tab1.aT ν) 118 mm19 [.cell 4 184,.tmp 5] [0,1,2,3,7,9] [75] [] = some (118,mm19.nt,mm19.res,mm19.A1) := fun _ => by kernel_rfl
theorem me20 : ∀ ν, mRun (tab1.aT ν) 122 mm20 [.cell 6 179,.cell 7 171,.tmp 8] [0,1,5,7,8,9,11] [75,76,145,260] [] = some (122,mm20.nt,mm20.res,mm20.A1) := fun _ => by kernel_rfl
theorem me22 : ∀ ν, mRun (tab1.aT ν) 124 mm22 [.cell 8 55,.tmp 9] [1,4,5,6,7,10] [77] [] = some (124,mm22.nt,mm22.res,mm22.A1) := fun _ => by kernel_rfl
end Go.Proofs.YthcadcdfoenclaaGreatDoor.Sim
