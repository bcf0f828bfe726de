/- The run of the law, from state 28 to state 32. No condition. -/
import Derived.Test.YthcadcdfoenclaaGreatDoorLiSt0
import Derived.Test.YthcadcdfoenclaaGreatDoorLiMd
import Derived.KernelRfl
set_option maxRecDepth 100000
namespace Go.Proofs.YthcadcdfoenclaaGreatDoor.Sim
open Go Go.RowKit
theorem zm29 : Meets tab zs29 zs28 :=
 (.nodes [] 2 (by kernel_rfl) ⟨(.nodes [2,3] 1 (by kernel_rfl) ⟨(.same (keys zh29) (keys zg29) 305084 [1,3,5,8] (by kernel_rfl)),(.same (keys zh29) (keys zg29) 305084 [1,2,4,6,8] (by kernel_rfl)),trivial⟩),(.nodes [2,3] 1 (by kernel_rfl) ⟨(.same (keys zh29) (keys zg29) 305084 [0,4,5,8] (by kernel_rfl)),(.same (keys zh29) (keys zg29) 305084 [0,2,3,4,6,8] (by kernel_rfl)),trivial⟩),(.nodes [2,3] 1 (by kernel_rfl) ⟨(.same (keys zh29) (keys zg29) 305084 [0,2,3,4,6,8] (by kernel_rfl)),(.same (keys zh29) (keys zg29) 305084 [2,5,6,8] (by kernel_rfl)),trivial⟩),trivial⟩)
theorem ze30 : gcS (keys zh30) (keys zg30) 323978 (aruns tab [1,2,4,6,7,8,10,11,13] zs29) = zs30 := by kernel_rfl
theorem ze31 : gcS (keys zh31) (keys zg31) 338891 (aruns tab [0,2,3,5,7,8,9,12,13] zs30) = zs31 := by kernel_rfl
theorem ze32 : gcS (keys zh32) (keys zg32) 357369 (aruns tab [1,4,8,9,11,12,13] zs31) = zs32 := by kernel_rfl
theorem run7 (f : FuncId) (v : Value) (k : Fin tab f v zs32) : Fin tab f v zs28 := (zm29).fin (fun _ => rfl) (.runs _ _ _ _ ze30 (.runs _ _ _ _ ze31 (.runs _ _ _ _ ze32 (k))))
end Go.Proofs.YthcadcdfoenclaaGreatDoor.Sim
