/- Calls that are run once, by the kernel. No condition. -/
import Derived.Test.YthcadcdfoenclaaGreatDoorLiMd
import Derived.KernelRfl
set_option maxRecDepth 100000
namespace Go.Proofs.YthcadcdfoenclaaGreatDoor.Sim
open Go Go.RowKit
theorem me8 : ∀ ν, mRun (tab0.aT ν) 112 mm8 [.cell 4 58,.tmp 5] [0,2,3,7,9,10,12] [74] [] = some (112,mm8.nt,mm8.res,mm8.A1) := fun _ => by kernel_rfl
theorem me11 : ∀ ν, mRun (tab0.aT ν) 112 mm11 [.cell 4 58,.tmp 5] [0,2,3,7,9,10,12] [74] [] = some (112,mm11.nt,mm11.res,mm11.A1) := fun _ => by kernel_rfl
theorem me16 : ∀ ν, mRun (tab0.aT ν) 123 mm16 [.cell 12 173,.tmp 13] [1,2,4,5,6,7] [75,115,116] [] = some (123,mm16.nt,mm16.res,mm16.A1) := fun _ => by kernel_rfl
theorem me23 : ∀ ν, mRun (tab0.aT ν) 160 mm23 [.cell 4 58,.tmp 5] [3,6,9,10,12] [73] [] = some (160,mm23.nt,mm23.res,mm23.A1) := fun _ => by kernel_rfl
theorem me24 : ∀ ν, mRun (tab0.aT ν) 118 mm24 [.cell 4 184,.tmp 5] [0,4,5,6,8,10] [75] [] = some (118,mm24.nt,mm24.res,mm24.A1) := fun _ => by kernel_rfl
theorem me25 : ∀ ν, mRun (tab0.aT ν) 122 mm25 [.cell 6 179,.cell 7 171,.tmp 8] [2,3,7,8,10,11] [75,76,116] [116] = some (122,mm25.nt,mm25.res,mm25.A1) := fun _ => by kernel_rfl
theorem me26 : ∀ ν, mRun (tab0.aT ν) 124 mm26 [.cell 8 55,.tmp 9] [1,2,4,5,6,8,10] [77] [] = some (124,mm26.nt,mm26.res,mm26.A1) := fun _ => by kernel_rfl
theorem me31 : ∀ ν, mRun (tab0.aT ν) 123 mm31 [.cell 12 173,.tmp 13] [1,2,4,5,6,7] [75,115,116] [] = some (123,mm31.nt,mm31.res,mm31.A1) := fun _ => by kernel_rfl
theorem me36 : ∀ ν, mRun (tab0.aT ν) 123 mm36 [.cell 12 173,.tmp 13] [1,5,6,7] [75,108] [] = some (123,mm36.nt,mm36.res,mm36.A1) := fun _ => by kernel_rfl
theorem me38 : ∀ ν, mRun (tab0.aT ν) 160 mm38 [.cell 4 58,.tmp 5] [3,6,9,10,12] [73] [] = some (160,mm38.nt,mm38.res,mm38.A1) := fun _ => by kernel_rfl
theorem me39 : ∀ ν, mRun (tab0.aT ν) 118 mm39 [.cell 4 184,.tmp 5] [0,4,5,6,8,10] [75] [] = some (118,mm39.nt,mm39.res,mm39.A1) := fun _ => by kernel_rfl
theorem me40 : ∀ ν, mRun (tab0.aT ν) 124 mm40 [.cell 8 55,.tmp 9] [1,2,4,5,6,8,10] [77] [] = some (124,mm40.nt,mm40.res,mm40.A1) := fun _ => by kernel_rfl
theorem me43 : ∀ ν, mRun (tab0.aT ν) 118 mm43 [.cell 4 184,.tmp 5] [0,4,5,6,8,10] [75] [] = some (118,mm43.nt,mm43.res,mm43.A1) := fun _ => by kernel_rfl
theorem me44 : ∀ ν, mRun (tab0.aT ν) 124 mm44 [.cell 8 55,.tmp 9] [1,2,4,5,6,8,10] [77] [] = some (124,mm44.nt,mm44.res,mm44.A1) := fun _ => by kernel_rfl
theorem me45 : ∀ ν, mRun (tab0.aT ν) 123 mm45 [.cell 12 173,.tmp 13] [1,5,6,7] [75,108] [] = some (123,mm45.nt,mm45.res,mm45.A1) := fun _ => by kernel_rfl
theorem me47 : ∀ ν, mRun (tab0.aT ν) 118 mm47 [.cell 4 184,.tmp 5] [0,4,5,6,8,10] [75] [] = some (118,mm47.nt,mm47.res,mm47.A1) := fun _ => by kernel_rfl
theorem me48 : ∀ ν, mRun (tab0.aT ν) 124 mm48 [.cell 8 55,.tmp 9] [1,2,4,5,6,8,10] [77] [] = some (124,mm48.nt,mm48.res,mm48.A1) := fun _ => by kernel_rfl
theorem me57 : ∀ ν, mRun (tab0.aT ν) 124 mm57 [.cell 8 55,.tmp 9] [1,2,4,5,6,8,10] [77] [] = some (124,mm57.nt,mm57.res,mm57.A1) := fun _ => by kernel_rfl
end Go.Proofs.YthcadcdfoenclaaGreatDoor.Sim
