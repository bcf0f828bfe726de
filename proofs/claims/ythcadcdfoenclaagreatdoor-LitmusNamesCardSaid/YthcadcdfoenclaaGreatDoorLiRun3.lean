/- The run of the law, from state 12 to state 16. No condition. -/
import Derived.Test.YthcadcdfoenclaaGreatDoorLiSt0
import Derived.Test.YthcadcdfoenclaaGreatDoorLiMd
import Derived.KernelRfl
set_option maxRecDepth 100000
namespace Go.Proofs.YthcadcdfoenclaaGreatDoor.Sim
open Go Go.RowKit
theorem ze13 : gcS (keys zh13) (keys zg13) 108827 (aruns tab [0,1,2,3,4,5,6] zs12) = zs13 := by kernel_rfl
theorem zm14 : Meets tab zs14 zs13 :=
 (.nodes [] 2 (by kernel_rfl) ⟨(.nodes [2,3] 1 (by kernel_rfl) ⟨(.same (keys zh14) (keys zg14) 108981 [0,4,5,6,7] (by kernel_rfl)),(.leaf [(108839,108834),(108834,108839)] (keys zh14) (keys zg14) 108981 [0,2,6,7] (keys zh14) (keys zg14) (by kernel_rfl)),trivial⟩),(.nodes [2,3] 1 (by kernel_rfl) ⟨(.leaf [(108829,108834),(108834,108829)] (keys zh14) (keys zg14) 108981 [3,4,5,6,7] (keys zh14) (keys zg14) (by kernel_rfl)),(.leaf [(108829,108834),(108834,108839),(108839,108829)] (keys zh14) (keys zg14) 108981 [0,1,2,3,4,5,6,7] (keys zh14) (keys zg14) (by kernel_rfl)),trivial⟩),(.nodes [2,3] 1 (by kernel_rfl) ⟨(.leaf [(108839,108834),(108829,108839),(108834,108829)] (keys zh14) (keys zg14) 108981 [2,3,6,7] (keys zh14) (keys zg14) (by kernel_rfl)),(.leaf [(108829,108839),(108839,108829)] (keys zh14) (keys zg14) 108981 [3,4,5,6,7] (keys zh14) (keys zg14) (by kernel_rfl)),trivial⟩),trivial⟩)
theorem ze15 : gcS (keys zh15) (keys zg15) 171183 (aruns tab [1,3,4,5,7,8,11,13] zs14) = zs15 := by kernel_rfl
theorem ze16 : gcS (keys zh16) (keys zg16) 177357 (aruns tab [0,1,2,4,6,7,9,10,12,13] zs15) = zs16 := by kernel_rfl
theorem run3 (f : FuncId) (v : Value) (k : Fin tab f v zs16) : Fin tab f v zs12 := .runs _ _ _ _ ze13 ((zm14).fin (fun _ => rfl) (.runs _ _ _ _ ze15 (.runs _ _ _ _ ze16 (k))))
end Go.Proofs.YthcadcdfoenclaaGreatDoor.Sim
