/- Calls that are run once, by the kernel. No condition. -/
import Derived.Test.YthcadcdfoenclaaGreatDoorLiMd
import Derived.KernelRfl
set_option maxRecDepth 100000
namespace Go.Proofs.YthcadcdfoenclaaGreatDoor.Sim
open Go Go.RowKit
theorem me248 : ∀ ν, mRun (tab0.aT ν) 122 mm248 [.cell 6 179,.cell 7 171,.tmp 8] [2,7,8,10,11] [75,76] [] = some (122,mm248.nt,mm248.res,mm248.A1) := fun _ => by kernel_rfl
theorem me260 : ∀ ν, mRun (tab0.aT ν) 160 mm260 [.cell 4 58,.tmp 5] [3,6,9,10,12] [73] [] = some (160,mm260.nt,mm260.res,mm260.A1) := fun _ => by kernel_rfl
theorem me261 : ∀ ν, mRun (tab0.aT ν) 118 mm261 [.cell 4 184,.tmp 5] [0,4,5,6,8,10] [75] [] = some (118,mm261.nt,mm261.res,mm261.A1) := fun _ => by kernel_rfl
theorem me262 : ∀ ν, mRun (tab0.aT ν) 122 mm262 [.cell 6 179,.cell 7 171,.tmp 8] [2,4,7,8,10,11] [75,76,116,118] [116,118] = some (122,mm262.nt,mm262.res,mm262.A1) := fun _ => by kernel_rfl
theorem me296 : ∀ ν, mRun (tab0.aT ν) 160 mm296 [.cell 4 58,.tmp 5] [3,6,9,10,12] [73] [] = some (160,mm296.nt,mm296.res,mm296.A1) := fun _ => by kernel_rfl
theorem me301 : ∀ ν, mRun (tab0.aT ν) 123 mm301 [.cell 12 173,.tmp 13] [1,5,6,7] [75,108] [] = some (123,mm301.nt,mm301.res,mm301.A1) := fun _ => by kernel_rfl
theorem me306 : ∀ ν, mRun (tab0.aT ν) 160 mm306 [.cell 4 58,.tmp 5] [3,6,9,10,12] [73] [] = some (160,mm306.nt,mm306.res,mm306.A1) := fun _ => by kernel_rfl
theorem me310 : ∀ ν, mRun (tab0.aT ν) 123 mm310 [.cell 12 173,.tmp 13] [1,5,6,7] [75,108] [] = some (123,mm310.nt,mm310.res,mm310.A1) := fun _ => by kernel_rfl
theorem me343 : ∀ ν, mRun (tab0.aT ν) 160 mm343 [.cell 4 58,.tmp 5] [3,6,9,10,12] [73] [] = some (160,mm343.nt,mm343.res,mm343.A1) := fun _ => by kernel_rfl
theorem me357 : ∀ ν, mRun (tab0.aT ν) 160 mm357 [.cell 4 58,.tmp 5] [3,6,9,10,12] [73] [] = some (160,mm357.nt,mm357.res,mm357.A1) := fun _ => by kernel_rfl
end Go.Proofs.YthcadcdfoenclaaGreatDoor.Sim
