/- The run of the law, from state 52 to state 56. No condition. -/
import Derived.Test.YthcadcdfoenclaaGreatDoorLiSt0
import Derived.Test.YthcadcdfoenclaaGreatDoorLiMd
import Derived.Test.YthcadcdfoenclaaGreatDoorLiRy0
import Derived.KernelRfl
set_option maxRecDepth 100000
namespace Go.Proofs.YthcadcdfoenclaaGreatDoor.Sim
open Go Go.RowKit
theorem ze53 : gcS (keys zh53) (keys zg53) 589986 (aruns tab [0,1,4,5,8,11,13] zs52) = zs53 := by kernel_rfl
theorem ze54 : gcS (keys zh54) (keys zg54) 593481 (aruns tab [0,1,3,4,7,8,9,11,12] zs53) = zs54 := by kernel_rfl
theorem zm55 : Meets tab zs55 zs54 :=
 (.nodes [] 2 (by kernel_rfl) ⟨(.nodes [2,3] 1 (by kernel_rfl) ⟨(.same (keys zh55) (keys zg55) 593672 [1,3,5,8] (by kernel_rfl)),(.same (keys zh55) (keys zg55) 593672 [1,2,4,6,8] (by kernel_rfl)),trivial⟩),(.nodes [2,3] 1 (by kernel_rfl) ⟨(.same (keys zh55) (keys zg55) 593672 [0,4,5,8] (by kernel_rfl)),(.same (keys zh55) (keys zg55) 593672 [0,2,3,4,6,8] (by kernel_rfl)),trivial⟩),(.nodes [2,3] 1 (by kernel_rfl) ⟨(.same (keys zh55) (keys zg55) 593672 [0,2,3,4,6,8] (by kernel_rfl)),(.same (keys zh55) (keys zg55) 593672 [2,5,6,8] (by kernel_rfl)),trivial⟩),trivial⟩)
theorem run13 (f : FuncId) (v : Value) (k : Fin tab f v zs56) : Fin tab f v zs52 := .runs _ _ _ _ ze53 (.runs _ _ _ _ ze54 ((zm55).fin (fun _ => rfl) (.runs _ _ _ _ ze55m (.runs _ _ _ _ ze56 (k)))))
end Go.Proofs.YthcadcdfoenclaaGreatDoor.Sim
